/- Sim: the program's types and functions, as tables. Printed by a program (simtab3.py). -/
import Derived.Test.YtjjiblgcmdbcoaaGreatDoorSimUOne
import Derived.Test.YtjjiblgcmdbcoaaGreatDoorProg
import Derived.KernelRfl
set_option linter.unusedVariables false
set_option linter.unusedSimpArgs false
set_option linter.all false
namespace Go.Proofs.YtjjiblgcmdbcoaaGreatDoor
open Go Go.Sim
open Go.Abs (TE TK SK TOK teOf)

def te1 : TE := ⟨.fn, 1, 8, .nilFunc, []⟩
def te2 : TE := ⟨.int .i64, 1, 8, .int .i64 0, [.i .i64]⟩
def te3 : TE := ⟨.int .i64, 1, 8, .int .i64 0, [.i .i64]⟩
def te4 : TE := ⟨.bool, 1, 1, .bool false, [.b]⟩
def te5 : TE := ⟨.int .u8, 1, 1, .int .u8 0, [.i .u8]⟩
def te6 : TE := ⟨.int .u8, 1, 1, .int .u8 0, [.i .u8]⟩
def te7 : TE := ⟨.agg [(0, 1, false), (1, 1, false), (2, 1, false), (3, 1, false)], 4, 24, .agg #[.int .i64 0, .int .i64 0, .bool false, .int .u8 0], []⟩
def te8 : TE := ⟨.agg [(0, 1, false), (1, 1, false), (2, 1, false), (3, 1, false)], 4, 24, .agg #[.int .i64 0, .int .i64 0, .bool false, .int .u8 0], []⟩
def te9 : TE := ⟨.str, 1, 16, .string ⟨#[]⟩, [.s]⟩
def te10 : TE := ⟨.str, 1, 16, .string ⟨#[]⟩, [.s]⟩
def te11 : TE := ⟨.str, 1, 16, .string ⟨#[]⟩, [.s]⟩
def te12 : TE := ⟨.int .u64, 1, 8, .int .u64 0, [.i .u64]⟩
def te13 : TE := ⟨.agg [(0, 1, false), (1, 1, false)], 2, 24, .agg #[.string ⟨#[]⟩, .int .u64 0], []⟩
def te14 : TE := ⟨.agg [(0, 1, false), (1, 1, false)], 2, 24, .agg #[.string ⟨#[]⟩, .int .u64 0], []⟩
def te15 : TE := ⟨.ptr, 1, 8, .pointer none, []⟩
def te16 : TE := ⟨.ptr, 1, 8, .pointer none, []⟩
def te17 : TE := ⟨.ptr, 1, 8, .pointer none, []⟩
def te18 : TE := ⟨.agg [(0, 1, false)], 1, 8, .agg #[.pointer none], []⟩
def te19 : TE := ⟨.agg [(0, 1, false)], 1, 8, .agg #[.pointer none], []⟩
def te21 : TE := ⟨.int .i32, 1, 4, .int .i32 0, [.i .i32]⟩
def te22 : TE := ⟨.slc 3, 1, 24, .slice none 0 0, []⟩
def te23 : TE := ⟨.ptr, 1, 8, .pointer none, []⟩
def te24 : TE := ⟨.int .i64, 1, 8, .int .i64 0, [.i .i64]⟩
def te26 : TE := ⟨.fn, 1, 8, .nilFunc, []⟩
def te28 : TE := ⟨.fn, 1, 8, .nilFunc, []⟩
def te30 : TE := ⟨.fn, 1, 8, .nilFunc, []⟩
def te31 : TE := ⟨.slc 22, 1, 24, .slice none 0 0, []⟩
def te33 : TE := ⟨.fn, 1, 8, .nilFunc, []⟩
def te34 : TE := ⟨.fn, 1, 8, .nilFunc, []⟩
def te35 : TE := ⟨.slc 50, 1, 24, .slice none 0 0, []⟩
def te37 : TE := ⟨.fn, 1, 8, .nilFunc, []⟩
def te38 : TE := ⟨.fn, 1, 8, .nilFunc, []⟩
def te39 : TE := ⟨.slc 73, 1, 24, .slice none 0 0, []⟩
def te40 : TE := ⟨.slc 75, 1, 24, .slice none 0 0, []⟩
def te41 : TE := ⟨.slc 91, 1, 24, .slice none 0 0, []⟩
def te42 : TE := ⟨.agg [(0, 1, false), (1, 1, false), (2, 1, false), (3, 1, false), (4, 1, false), (5, 1, false), (6, 1, false), (7, 1, false), (8, 1, false), (9, 1, false), (10, 1, false)], 11, 232, .agg #[.slice none 0 0, .slice none 0 0, .slice none 0 0, .slice none 0 0, .slice none 0 0, .slice none 0 0, .slice none 0 0, .slice none 0 0, .slice none 0 0, .int .i64 0, .bool false], []⟩
def te43 : TE := ⟨.agg [(0, 1, false), (1, 1, false), (2, 1, false), (3, 1, false), (4, 1, false), (5, 1, false), (6, 1, false), (7, 1, false), (8, 1, false), (9, 1, false), (10, 1, false)], 11, 232, .agg #[.slice none 0 0, .slice none 0 0, .slice none 0 0, .slice none 0 0, .slice none 0 0, .slice none 0 0, .slice none 0 0, .slice none 0 0, .slice none 0 0, .int .i64 0, .bool false], []⟩
def te44 : TE := ⟨.fn, 1, 8, .nilFunc, []⟩
def te45 : TE := ⟨.fn, 1, 8, .nilFunc, []⟩
def te46 : TE := ⟨.fn, 1, 8, .nilFunc, []⟩
def te47 : TE := ⟨.fn, 1, 8, .nilFunc, []⟩
def te48 : TE := ⟨.fn, 1, 8, .nilFunc, []⟩
def te49 : TE := ⟨.agg [(0, 1, false), (1, 1, false)], 2, 40, .agg #[.string ⟨#[]⟩, .slice none 0 0], []⟩
def te50 : TE := ⟨.agg [(0, 1, false), (1, 1, false)], 2, 40, .agg #[.string ⟨#[]⟩, .slice none 0 0], []⟩
def te51 : TE := ⟨.fn, 1, 8, .nilFunc, []⟩
def te52 : TE := ⟨.fn, 1, 8, .nilFunc, []⟩
def te53 : TE := ⟨.fn, 1, 8, .nilFunc, []⟩
def te54 : TE := ⟨.fn, 1, 8, .nilFunc, []⟩
def te55 : TE := ⟨.fn, 1, 8, .nilFunc, []⟩
def te56 : TE := ⟨.fn, 1, 8, .nilFunc, []⟩
def te57 : TE := ⟨.agg [(0, 11, true), (11, 1, false), (12, 1, false)], 13, 248, .agg #[.slice none 0 0, .slice none 0 0, .slice none 0 0, .slice none 0 0, .slice none 0 0, .slice none 0 0, .slice none 0 0, .slice none 0 0, .slice none 0 0, .int .i64 0, .bool false, .int .i64 0, .bool false], []⟩
def te58 : TE := ⟨.agg [(0, 11, true), (11, 1, false), (12, 1, false)], 13, 248, .agg #[.slice none 0 0, .slice none 0 0, .slice none 0 0, .slice none 0 0, .slice none 0 0, .slice none 0 0, .slice none 0 0, .slice none 0 0, .slice none 0 0, .int .i64 0, .bool false, .int .i64 0, .bool false], []⟩
def te59 : TE := ⟨.agg [(0, 13, true)], 13, 248, .agg #[.slice none 0 0, .slice none 0 0, .slice none 0 0, .slice none 0 0, .slice none 0 0, .slice none 0 0, .slice none 0 0, .slice none 0 0, .slice none 0 0, .int .i64 0, .bool false, .int .i64 0, .bool false], []⟩
def te60 : TE := ⟨.agg [(0, 13, true)], 13, 248, .agg #[.slice none 0 0, .slice none 0 0, .slice none 0 0, .slice none 0 0, .slice none 0 0, .slice none 0 0, .slice none 0 0, .slice none 0 0, .slice none 0 0, .int .i64 0, .bool false, .int .i64 0, .bool false], []⟩
def te61 : TE := ⟨.fn, 1, 8, .nilFunc, []⟩
def te62 : TE := ⟨.fn, 1, 8, .nilFunc, []⟩
def te63 : TE := ⟨.fn, 1, 8, .nilFunc, []⟩
def te64 : TE := ⟨.fn, 1, 8, .nilFunc, []⟩
def te65 : TE := ⟨.fn, 1, 8, .nilFunc, []⟩
def te66 : TE := ⟨.fn, 1, 8, .nilFunc, []⟩
def te67 : TE := ⟨.fn, 1, 8, .nilFunc, []⟩
def te68 : TE := ⟨.fn, 1, 8, .nilFunc, []⟩
def te69 : TE := ⟨.fn, 1, 8, .nilFunc, []⟩
def te70 : TE := ⟨.fn, 1, 8, .nilFunc, []⟩
def te71 : TE := ⟨.fn, 1, 8, .nilFunc, []⟩
def te72 : TE := ⟨.agg [(0, 1, false), (1, 1, false), (2, 1, false)], 3, 40, .agg #[.int .i64 0, .int .i64 0, .slice none 0 0], []⟩
def te73 : TE := ⟨.agg [(0, 1, false), (1, 1, false), (2, 1, false)], 3, 40, .agg #[.int .i64 0, .int .i64 0, .slice none 0 0], []⟩
def te74 : TE := ⟨.agg [(0, 1, false), (1, 2, true)], 3, 48, .agg #[.int .i64 0, .string ⟨#[]⟩, .slice none 0 0], []⟩
def te75 : TE := ⟨.agg [(0, 1, false), (1, 2, true)], 3, 48, .agg #[.int .i64 0, .string ⟨#[]⟩, .slice none 0 0], []⟩
def te76 : TE := ⟨.fn, 1, 8, .nilFunc, []⟩
def te78 : TE := ⟨.fn, 1, 8, .nilFunc, []⟩
def te79 : TE := ⟨.fn, 1, 8, .nilFunc, []⟩
def te81 : TE := ⟨.fn, 1, 8, .nilFunc, []⟩
def te82 : TE := ⟨.slc 113, 1, 24, .slice none 0 0, []⟩
def te83 : TE := ⟨.fn, 1, 8, .nilFunc, []⟩
def te84 : TE := ⟨.fn, 1, 8, .nilFunc, []⟩
def te85 : TE := ⟨.ptr, 1, 8, .pointer none, []⟩
def te86 : TE := ⟨.fn, 1, 8, .nilFunc, []⟩
def te87 : TE := ⟨.slc 4, 1, 24, .slice none 0 0, []⟩
def te89 : TE := ⟨.fn, 1, 8, .nilFunc, []⟩
def te90 : TE := ⟨.agg [(0, 1, false), (1, 1, false), (2, 2, true), (4, 1, false)], 5, 64, .agg #[.int .i64 0, .int .i64 0, .string ⟨#[]⟩, .slice none 0 0, .int .i64 0], []⟩
def te91 : TE := ⟨.agg [(0, 1, false), (1, 1, false), (2, 2, true), (4, 1, false)], 5, 64, .agg #[.int .i64 0, .int .i64 0, .string ⟨#[]⟩, .slice none 0 0, .int .i64 0], []⟩
def te92 : TE := ⟨.fn, 1, 8, .nilFunc, []⟩
def te93 : TE := ⟨.fn, 1, 8, .nilFunc, []⟩
def te94 : TE := ⟨.fn, 1, 8, .nilFunc, []⟩
def te96 : TE := ⟨.fn, 1, 8, .nilFunc, []⟩
def te97 : TE := ⟨.agg [(0, 1, false), (1, 1, false), (2, 1, false), (3, 1, false)], 4, 40, .agg #[.int .i64 0, .int .i64 0, .int .i64 0, .string ⟨#[]⟩], [.i .i64, .i .i64, .i .i64, .s]⟩
def te98 : TE := ⟨.agg [(0, 1, false), (1, 1, false), (2, 1, false), (3, 1, false)], 4, 40, .agg #[.int .i64 0, .int .i64 0, .int .i64 0, .string ⟨#[]⟩], [.i .i64, .i .i64, .i .i64, .s]⟩
def te99 : TE := ⟨.fn, 1, 8, .nilFunc, []⟩
def te100 : TE := ⟨.fn, 1, 8, .nilFunc, []⟩
def te101 : TE := ⟨.fn, 1, 8, .nilFunc, []⟩
def te102 : TE := ⟨.fn, 1, 8, .nilFunc, []⟩
def te104 : TE := ⟨.fn, 1, 8, .nilFunc, []⟩
def te105 : TE := ⟨.fn, 1, 8, .nilFunc, []⟩
def te106 : TE := ⟨.fn, 1, 8, .nilFunc, []⟩
def te107 : TE := ⟨.ptr, 1, 8, .pointer none, []⟩
def te108 : TE := ⟨.agg [(0, 1, false), (1, 1, false)], 2, 24, .agg #[.string ⟨#[]⟩, .int .i64 0], [.s, .i .i64]⟩
def te109 : TE := ⟨.agg [(0, 1, false), (1, 1, false)], 2, 24, .agg #[.string ⟨#[]⟩, .int .i64 0], [.s, .i .i64]⟩
def te110 : TE := ⟨.fn, 1, 8, .nilFunc, []⟩
def te111 : TE := ⟨.slc 141, 1, 24, .slice none 0 0, []⟩
def te112 : TE := ⟨.agg [(0, 2, true), (2, 1, false)], 3, 64, .agg #[.string ⟨#[]⟩, .slice none 0 0, .slice none 0 0], []⟩
def te113 : TE := ⟨.agg [(0, 2, true), (2, 1, false)], 3, 64, .agg #[.string ⟨#[]⟩, .slice none 0 0, .slice none 0 0], []⟩
def te114 : TE := ⟨.fn, 1, 8, .nilFunc, []⟩
def te115 : TE := ⟨.fn, 1, 8, .nilFunc, []⟩
def te116 : TE := ⟨.fn, 1, 8, .nilFunc, []⟩
def te117 : TE := ⟨.fn, 1, 8, .nilFunc, []⟩
def te118 : TE := ⟨.fn, 1, 8, .nilFunc, []⟩
def te119 : TE := ⟨.fn, 1, 8, .nilFunc, []⟩
def te120 : TE := ⟨.fn, 1, 8, .nilFunc, []⟩
def te121 : TE := ⟨.int .u64, 1, 8, .int .u64 0, [.i .u64]⟩
def te122 : TE := ⟨.fn, 1, 8, .nilFunc, []⟩
def te123 : TE := ⟨.fn, 1, 8, .nilFunc, []⟩
def te124 : TE := ⟨.fn, 1, 8, .nilFunc, []⟩
def te125 : TE := ⟨.fn, 1, 8, .nilFunc, []⟩
def te126 : TE := ⟨.slc 228, 1, 24, .slice none 0 0, []⟩
def te127 : TE := ⟨.agg [(0, 1, false), (1, 1, false)], 2, 48, .agg #[.slice none 0 0, .slice none 0 0], []⟩
def te128 : TE := ⟨.agg [(0, 1, false), (1, 1, false)], 2, 48, .agg #[.slice none 0 0, .slice none 0 0], []⟩
def te130 : TE := ⟨.fn, 1, 8, .nilFunc, []⟩
def te131 : TE := ⟨.fn, 1, 8, .nilFunc, []⟩
def te132 : TE := ⟨.fn, 1, 8, .nilFunc, []⟩
def te133 : TE := ⟨.fn, 1, 8, .nilFunc, []⟩
def te134 : TE := ⟨.fn, 1, 8, .nilFunc, []⟩
def te135 : TE := ⟨.fn, 1, 8, .nilFunc, []⟩
def te136 : TE := ⟨.fn, 1, 8, .nilFunc, []⟩
def te137 : TE := ⟨.fn, 1, 8, .nilFunc, []⟩
def te138 : TE := ⟨.fn, 1, 8, .nilFunc, []⟩
def te139 : TE := ⟨.fn, 1, 8, .nilFunc, []⟩
def te140 : TE := ⟨.agg [(0, 1, false), (1, 2, true)], 3, 48, .agg #[.bool false, .string ⟨#[]⟩, .slice none 0 0], []⟩
def te141 : TE := ⟨.agg [(0, 1, false), (1, 2, true)], 3, 48, .agg #[.bool false, .string ⟨#[]⟩, .slice none 0 0], []⟩
def te142 : TE := ⟨.fn, 1, 8, .nilFunc, []⟩
def te143 : TE := ⟨.int .i64, 1, 8, .int .i64 0, [.i .i64]⟩
def te145 : TE := ⟨.fn, 1, 8, .nilFunc, []⟩
def te146 : TE := ⟨.fn, 1, 8, .nilFunc, []⟩
def te147 : TE := ⟨.fn, 1, 8, .nilFunc, []⟩
def te148 : TE := ⟨.fn, 1, 8, .nilFunc, []⟩
def te149 : TE := ⟨.fn, 1, 8, .nilFunc, []⟩
def te150 : TE := ⟨.fn, 1, 8, .nilFunc, []⟩
def te151 : TE := ⟨.int .u32, 1, 4, .int .u32 0, [.i .u32]⟩
def te152 : TE := ⟨.fn, 1, 8, .nilFunc, []⟩
def te153 : TE := ⟨.int .u64, 1, 8, .int .u64 0, [.i .u64]⟩
def te154 : TE := ⟨.fn, 1, 8, .nilFunc, []⟩
def te155 : TE := ⟨.agg [(0, 1, false), (1, 1, false)], 2, 2, .agg #[.int .u8 0, .int .u8 0], [.i .u8, .i .u8]⟩
def te156 : TE := ⟨.agg [(0, 1, false), (1, 1, false)], 2, 2, .agg #[.int .u8 0, .int .u8 0], [.i .u8, .i .u8]⟩
def te157 : TE := ⟨.arr 3 156, 6, 6, .agg #[.int .u8 0, .int .u8 0, .int .u8 0, .int .u8 0, .int .u8 0, .int .u8 0], []⟩
def te158 : TE := ⟨.fn, 1, 8, .nilFunc, []⟩
def te159 : TE := ⟨.slc 217, 1, 24, .slice none 0 0, []⟩
def te161 : TE := ⟨.fn, 1, 8, .nilFunc, []⟩
def te162 : TE := ⟨.fn, 1, 8, .nilFunc, []⟩
def te163 : TE := ⟨.map 9 35, 1, 8, .map none, []⟩
def te164 : TE := ⟨.map 9 35, 1, 8, .map none, []⟩
def te165 : TE := ⟨.fn, 1, 8, .nilFunc, []⟩
def te166 : TE := ⟨.fn, 1, 8, .nilFunc, []⟩
def te167 : TE := ⟨.fn, 1, 8, .nilFunc, []⟩
def te168 : TE := ⟨.ptr, 1, 8, .pointer none, []⟩
def te169 : TE := ⟨.fn, 1, 8, .nilFunc, []⟩
def te170 : TE := ⟨.map 3 3, 1, 8, .map none, []⟩
def te171 : TE := ⟨.agg [(0, 2, true), (2, 1, false), (3, 1, false), (4, 1, false), (5, 1, false)], 6, 112, .agg #[.slice none 0 0, .slice none 0 0, .slice none 0 0, .slice none 0 0, .map none, .map none], []⟩
def te172 : TE := ⟨.agg [(0, 2, true), (2, 1, false), (3, 1, false), (4, 1, false), (5, 1, false)], 6, 112, .agg #[.slice none 0 0, .slice none 0 0, .slice none 0 0, .slice none 0 0, .map none, .map none], []⟩
def te173 : TE := ⟨.fn, 1, 8, .nilFunc, []⟩
def te174 : TE := ⟨.fn, 1, 8, .nilFunc, []⟩
def te175 : TE := ⟨.ptr, 1, 8, .pointer none, []⟩
def te176 : TE := ⟨.fn, 1, 8, .nilFunc, []⟩
def te177 : TE := ⟨.fn, 1, 8, .nilFunc, []⟩
def te178 : TE := ⟨.ptr, 1, 8, .pointer none, []⟩
def te179 : TE := ⟨.fn, 1, 8, .nilFunc, []⟩
def te180 : TE := ⟨.fn, 1, 8, .nilFunc, []⟩
def te181 : TE := ⟨.fn, 1, 8, .nilFunc, []⟩
def te182 : TE := ⟨.fn, 1, 8, .nilFunc, []⟩
def te183 : TE := ⟨.fn, 1, 8, .nilFunc, []⟩
def te184 : TE := ⟨.ptr, 1, 8, .pointer none, []⟩
def te185 : TE := ⟨.agg [(0, 1, false), (1, 1, false)], 2, 48, .agg #[.slice none 0 0, .slice none 0 0], []⟩
def te186 : TE := ⟨.agg [(0, 1, false), (1, 1, false)], 2, 48, .agg #[.slice none 0 0, .slice none 0 0], []⟩
def te187 : TE := ⟨.fn, 1, 8, .nilFunc, []⟩
def te188 : TE := ⟨.fn, 1, 8, .nilFunc, []⟩
def te189 : TE := ⟨.map 9 3, 1, 8, .map none, []⟩
def te190 : TE := ⟨.fn, 1, 8, .nilFunc, []⟩
def te191 : TE := ⟨.fn, 1, 8, .nilFunc, []⟩
def te192 : TE := ⟨.fn, 1, 8, .nilFunc, []⟩
def te193 : TE := ⟨.fn, 1, 8, .nilFunc, []⟩
def te194 : TE := ⟨.map 9 4, 1, 8, .map none, []⟩
def te195 : TE := ⟨.int .u64, 1, 8, .int .u64 0, [.i .u64]⟩
def te196 : TE := ⟨.fn, 1, 8, .nilFunc, []⟩
def te197 : TE := ⟨.fn, 1, 8, .nilFunc, []⟩
def te198 : TE := ⟨.fn, 1, 8, .nilFunc, []⟩
def te199 : TE := ⟨.ptr, 1, 8, .pointer none, []⟩
def te200 : TE := ⟨.fn, 1, 8, .nilFunc, []⟩
def te201 : TE := ⟨.fn, 1, 8, .nilFunc, []⟩
def te202 : TE := ⟨.slc 156, 1, 24, .slice none 0 0, []⟩
def te203 : TE := ⟨.fn, 1, 8, .nilFunc, []⟩
def te204 : TE := ⟨.fn, 1, 8, .nilFunc, []⟩
def te205 : TE := ⟨.slc 9, 1, 24, .slice none 0 0, []⟩
def te206 : TE := ⟨.fn, 1, 8, .nilFunc, []⟩
def te207 : TE := ⟨.slc 214, 1, 24, .slice none 0 0, []⟩
def te208 : TE := ⟨.fn, 1, 8, .nilFunc, []⟩
def te209 : TE := ⟨.fn, 1, 8, .nilFunc, []⟩
def te210 : TE := ⟨.fn, 1, 8, .nilFunc, []⟩
def te211 : TE := ⟨.fn, 1, 8, .nilFunc, []⟩
def te212 : TE := ⟨.fn, 1, 8, .nilFunc, []⟩
def te213 : TE := ⟨.agg [(0, 1, false), (1, 1, false), (2, 1, false)], 3, 40, .agg #[.string ⟨#[]⟩, .string ⟨#[]⟩, .bool false], [.s, .s, .b]⟩
def te214 : TE := ⟨.agg [(0, 1, false), (1, 1, false), (2, 1, false)], 3, 40, .agg #[.string ⟨#[]⟩, .string ⟨#[]⟩, .bool false], [.s, .s, .b]⟩
def te215 : TE := ⟨.fn, 1, 8, .nilFunc, []⟩
def te216 : TE := ⟨.agg [(0, 1, false), (1, 1, false)], 2, 24, .agg #[.string ⟨#[]⟩, .int .i64 0], [.s, .i .i64]⟩
def te217 : TE := ⟨.agg [(0, 1, false), (1, 1, false)], 2, 24, .agg #[.string ⟨#[]⟩, .int .i64 0], [.s, .i .i64]⟩
def te218 : TE := ⟨.fn, 1, 8, .nilFunc, []⟩
def te219 : TE := ⟨.fn, 1, 8, .nilFunc, []⟩
def te220 : TE := ⟨.fn, 1, 8, .nilFunc, []⟩
def te221 : TE := ⟨.fn, 1, 8, .nilFunc, []⟩
def te222 : TE := ⟨.slc 307, 1, 24, .slice none 0 0, []⟩
def te223 : TE := ⟨.slc 307, 1, 24, .slice none 0 0, []⟩
def te224 : TE := ⟨.fn, 1, 8, .nilFunc, []⟩
def te226 : TE := ⟨.fn, 1, 8, .nilFunc, []⟩
def te227 : TE := ⟨.agg [(0, 1, false), (1, 1, false), (2, 1, false)], 3, 56, .agg #[.int .i64 0, .slice none 0 0, .slice none 0 0], []⟩
def te228 : TE := ⟨.agg [(0, 1, false), (1, 1, false), (2, 1, false)], 3, 56, .agg #[.int .i64 0, .slice none 0 0, .slice none 0 0], []⟩
def te230 : TE := ⟨.fn, 1, 8, .nilFunc, []⟩
def te231 : TE := ⟨.fn, 1, 8, .nilFunc, []⟩
def te232 : TE := ⟨.fn, 1, 8, .nilFunc, []⟩
def te233 : TE := ⟨.fn, 1, 8, .nilFunc, []⟩
def te234 : TE := ⟨.fn, 1, 8, .nilFunc, []⟩
def te235 : TE := ⟨.fn, 1, 8, .nilFunc, []⟩
def te236 : TE := ⟨.fn, 1, 8, .nilFunc, []⟩
def te237 : TE := ⟨.fn, 1, 8, .nilFunc, []⟩
def te238 : TE := ⟨.fn, 1, 8, .nilFunc, []⟩
def te239 : TE := ⟨.slc 87, 1, 24, .slice none 0 0, []⟩
def te240 : TE := ⟨.fn, 1, 8, .nilFunc, []⟩
def te241 : TE := ⟨.fn, 1, 8, .nilFunc, []⟩
def te243 : TE := ⟨.fn, 1, 8, .nilFunc, []⟩
def te244 : TE := ⟨.fn, 1, 8, .nilFunc, []⟩
def te245 : TE := ⟨.fn, 1, 8, .nilFunc, []⟩
def te246 : TE := ⟨.fn, 1, 8, .nilFunc, []⟩
def te247 : TE := ⟨.fn, 1, 8, .nilFunc, []⟩
def te248 : TE := ⟨.ptr, 1, 8, .pointer none, []⟩
def te249 : TE := ⟨.slc 5, 1, 24, .slice none 0 0, []⟩
def te250 : TE := ⟨.agg [(0, 1, false), (1, 1, false)], 2, 32, .agg #[.pointer none, .slice none 0 0], []⟩
def te251 : TE := ⟨.agg [(0, 1, false), (1, 1, false)], 2, 32, .agg #[.pointer none, .slice none 0 0], []⟩
def te255 : TE := ⟨.fn, 1, 8, .nilFunc, []⟩
def te256 : TE := ⟨.fn, 1, 8, .nilFunc, []⟩
def te257 : TE := ⟨.fn, 1, 8, .nilFunc, []⟩
def te258 : TE := ⟨.ptr, 1, 8, .pointer none, []⟩
def te259 : TE := ⟨.fn, 1, 8, .nilFunc, []⟩
def te260 : TE := ⟨.agg [(0, 1, false), (1, 1, false), (2, 1, false), (3, 1, false)], 4, 32, .agg #[.string ⟨#[]⟩, .int .i64 0, .bool false, .bool false], [.s, .i .i64, .b, .b]⟩
def te261 : TE := ⟨.agg [(0, 1, false), (1, 1, false), (2, 1, false), (3, 1, false)], 4, 32, .agg #[.string ⟨#[]⟩, .int .i64 0, .bool false, .bool false], [.s, .i .i64, .b, .b]⟩
def te263 : TE := ⟨.fn, 1, 8, .nilFunc, []⟩
def te264 : TE := ⟨.fn, 1, 8, .nilFunc, []⟩
def te265 : TE := ⟨.map 214 4, 1, 8, .map none, []⟩
def te266 : TE := ⟨.fn, 1, 8, .nilFunc, []⟩
def te267 : TE := ⟨.fn, 1, 8, .nilFunc, []⟩
def te268 : TE := ⟨.fn, 1, 8, .nilFunc, []⟩
def te269 : TE := ⟨.fn, 1, 8, .nilFunc, []⟩
def te270 : TE := ⟨.fn, 1, 8, .nilFunc, []⟩
def te271 : TE := ⟨.fn, 1, 8, .nilFunc, []⟩
def te272 : TE := ⟨.fn, 1, 8, .nilFunc, []⟩
def te273 : TE := ⟨.fn, 1, 8, .nilFunc, []⟩
def te274 : TE := ⟨.map 9 205, 1, 8, .map none, []⟩
def te275 : TE := ⟨.fn, 1, 8, .nilFunc, []⟩
def te276 : TE := ⟨.fn, 1, 8, .nilFunc, []⟩
def te277 : TE := ⟨.fn, 1, 8, .nilFunc, []⟩
def te278 : TE := ⟨.fn, 1, 8, .nilFunc, []⟩
def te280 : TE := ⟨.fn, 1, 8, .nilFunc, []⟩
def te281 : TE := ⟨.fn, 1, 8, .nilFunc, []⟩
def te282 : TE := ⟨.fn, 1, 8, .nilFunc, []⟩
def te283 : TE := ⟨.fn, 1, 8, .nilFunc, []⟩
def te284 : TE := ⟨.fn, 1, 8, .nilFunc, []⟩
def te285 : TE := ⟨.fn, 1, 8, .nilFunc, []⟩
def te286 : TE := ⟨.fn, 1, 8, .nilFunc, []⟩
def te287 : TE := ⟨.fn, 1, 8, .nilFunc, []⟩
def te289 : TE := ⟨.fn, 1, 8, .nilFunc, []⟩
def te290 : TE := ⟨.fn, 1, 8, .nilFunc, []⟩
def te291 : TE := ⟨.ptr, 1, 8, .pointer none, []⟩
def te292 : TE := ⟨.fn, 1, 8, .nilFunc, []⟩
def te293 : TE := ⟨.slc 261, 1, 24, .slice none 0 0, []⟩
def te294 : TE := ⟨.arr 10 261, 40, 320, .agg #[.string ⟨#[]⟩, .int .i64 0, .bool false, .bool false, .string ⟨#[]⟩, .int .i64 0, .bool false, .bool false, .string ⟨#[]⟩, .int .i64 0, .bool false, .bool false, .string ⟨#[]⟩, .int .i64 0, .bool false, .bool false, .string ⟨#[]⟩, .int .i64 0, .bool false, .bool false, .string ⟨#[]⟩, .int .i64 0, .bool false, .bool false, .string ⟨#[]⟩, .int .i64 0, .bool false, .bool false, .string ⟨#[]⟩, .int .i64 0, .bool false, .bool false, .string ⟨#[]⟩, .int .i64 0, .bool false, .bool false, .string ⟨#[]⟩, .int .i64 0, .bool false, .bool false], []⟩
def te295 : TE := ⟨.fn, 1, 8, .nilFunc, []⟩
def te296 : TE := ⟨.fn, 1, 8, .nilFunc, []⟩
def te297 : TE := ⟨.fn, 1, 8, .nilFunc, []⟩
def te298 : TE := ⟨.fn, 1, 8, .nilFunc, []⟩
def te299 : TE := ⟨.fn, 1, 8, .nilFunc, []⟩
def te300 : TE := ⟨.fn, 1, 8, .nilFunc, []⟩
def te301 : TE := ⟨.fn, 1, 8, .nilFunc, []⟩
def te302 : TE := ⟨.fn, 1, 8, .nilFunc, []⟩
def te303 : TE := ⟨.fn, 1, 8, .nilFunc, []⟩
def te304 : TE := ⟨.fn, 1, 8, .nilFunc, []⟩
def te305 : TE := ⟨.fn, 1, 8, .nilFunc, []⟩
def te306 : TE := ⟨.agg [(0, 1, false), (1, 2, true)], 3, 56, .agg #[.string ⟨#[]⟩, .string ⟨#[]⟩, .slice none 0 0], []⟩
def te307 : TE := ⟨.agg [(0, 1, false), (1, 2, true)], 3, 56, .agg #[.string ⟨#[]⟩, .string ⟨#[]⟩, .slice none 0 0], []⟩
def te308 : TE := ⟨.fn, 1, 8, .nilFunc, []⟩
def te309 : TE := ⟨.fn, 1, 8, .nilFunc, []⟩
def te310 : TE := ⟨.fn, 1, 8, .nilFunc, []⟩
def te311 : TE := ⟨.fn, 1, 8, .nilFunc, []⟩
def te312 : TE := ⟨.fn, 1, 8, .nilFunc, []⟩
def te313 : TE := ⟨.fn, 1, 8, .nilFunc, []⟩
def te315 : TE := ⟨.fn, 1, 8, .nilFunc, []⟩
def te316 : TE := ⟨.fn, 1, 8, .nilFunc, []⟩
def te317 : TE := ⟨.fn, 1, 8, .nilFunc, []⟩
def te318 : TE := ⟨.fn, 1, 8, .nilFunc, []⟩
def te319 : TE := ⟨.fn, 1, 8, .nilFunc, []⟩
def te320 : TE := ⟨.fn, 1, 8, .nilFunc, []⟩
def te321 : TE := ⟨.fn, 1, 8, .nilFunc, []⟩
def te322 : TE := ⟨.fn, 1, 8, .nilFunc, []⟩
def te323 : TE := ⟨.fn, 1, 8, .nilFunc, []⟩
def te324 : TE := ⟨.slc 126, 1, 24, .slice none 0 0, []⟩
def te325 : TE := ⟨.fn, 1, 8, .nilFunc, []⟩
def te326 : TE := ⟨.fn, 1, 8, .nilFunc, []⟩
def te327 : TE := ⟨.arr 24 5, 24, 24, .agg #[.int .u8 0, .int .u8 0, .int .u8 0, .int .u8 0, .int .u8 0, .int .u8 0, .int .u8 0, .int .u8 0, .int .u8 0, .int .u8 0, .int .u8 0, .int .u8 0, .int .u8 0, .int .u8 0, .int .u8 0, .int .u8 0, .int .u8 0, .int .u8 0, .int .u8 0, .int .u8 0, .int .u8 0, .int .u8 0, .int .u8 0, .int .u8 0], []⟩
def te328 : TE := ⟨.fn, 1, 8, .nilFunc, []⟩
def te330 : TE := ⟨.fn, 1, 8, .nilFunc, []⟩
def te331 : TE := ⟨.fn, 1, 8, .nilFunc, []⟩
def te332 : TE := ⟨.fn, 1, 8, .nilFunc, []⟩
def te333 : TE := ⟨.fn, 1, 8, .nilFunc, []⟩
def te334 : TE := ⟨.fn, 1, 8, .nilFunc, []⟩
def te335 : TE := ⟨.fn, 1, 8, .nilFunc, []⟩
def te336 : TE := ⟨.fn, 1, 8, .nilFunc, []⟩
def te337 : TE := ⟨.fn, 1, 8, .nilFunc, []⟩
def te338 : TE := ⟨.fn, 1, 8, .nilFunc, []⟩
def te339 : TE := ⟨.fn, 1, 8, .nilFunc, []⟩
def te340 : TE := ⟨.arr 20 153, 20, 160, .agg #[.int .u64 0, .int .u64 0, .int .u64 0, .int .u64 0, .int .u64 0, .int .u64 0, .int .u64 0, .int .u64 0, .int .u64 0, .int .u64 0, .int .u64 0, .int .u64 0, .int .u64 0, .int .u64 0, .int .u64 0, .int .u64 0, .int .u64 0, .int .u64 0, .int .u64 0, .int .u64 0], []⟩
def te341 : TE := ⟨.arr 65 5, 65, 65, .agg #[.int .u8 0, .int .u8 0, .int .u8 0, .int .u8 0, .int .u8 0, .int .u8 0, .int .u8 0, .int .u8 0, .int .u8 0, .int .u8 0, .int .u8 0, .int .u8 0, .int .u8 0, .int .u8 0, .int .u8 0, .int .u8 0, .int .u8 0, .int .u8 0, .int .u8 0, .int .u8 0, .int .u8 0, .int .u8 0, .int .u8 0, .int .u8 0, .int .u8 0, .int .u8 0, .int .u8 0, .int .u8 0, .int .u8 0, .int .u8 0, .int .u8 0, .int .u8 0, .int .u8 0, .int .u8 0, .int .u8 0, .int .u8 0, .int .u8 0, .int .u8 0, .int .u8 0, .int .u8 0, .int .u8 0, .int .u8 0, .int .u8 0, .int .u8 0, .int .u8 0, .int .u8 0, .int .u8 0, .int .u8 0, .int .u8 0, .int .u8 0, .int .u8 0, .int .u8 0, .int .u8 0, .int .u8 0, .int .u8 0, .int .u8 0, .int .u8 0, .int .u8 0, .int .u8 0, .int .u8 0, .int .u8 0, .int .u8 0, .int .u8 0, .int .u8 0, .int .u8 0], []⟩
def te342 : TE := ⟨.fn, 1, 8, .nilFunc, []⟩
def te343 : TE := ⟨.fn, 1, 8, .nilFunc, []⟩
def te344 : TE := ⟨.fn, 1, 8, .nilFunc, []⟩
def te345 : TE := ⟨.fn, 1, 8, .nilFunc, []⟩
def te346 : TE := ⟨.fn, 1, 8, .nilFunc, []⟩
def te347 : TE := ⟨.fn, 1, 8, .nilFunc, []⟩
def te348 : TE := ⟨.fn, 1, 8, .nilFunc, []⟩
def te349 : TE := ⟨.fn, 1, 8, .nilFunc, []⟩
def te350 : TE := ⟨.fn, 1, 8, .nilFunc, []⟩
def te351 : TE := ⟨.fn, 1, 8, .nilFunc, []⟩
def te352 : TE := ⟨.arr 32 5, 32, 32, .agg #[.int .u8 0, .int .u8 0, .int .u8 0, .int .u8 0, .int .u8 0, .int .u8 0, .int .u8 0, .int .u8 0, .int .u8 0, .int .u8 0, .int .u8 0, .int .u8 0, .int .u8 0, .int .u8 0, .int .u8 0, .int .u8 0, .int .u8 0, .int .u8 0, .int .u8 0, .int .u8 0, .int .u8 0, .int .u8 0, .int .u8 0, .int .u8 0, .int .u8 0, .int .u8 0, .int .u8 0, .int .u8 0, .int .u8 0, .int .u8 0, .int .u8 0, .int .u8 0], []⟩
def te353 : TE := ⟨.arr 64 5, 64, 64, .agg #[.int .u8 0, .int .u8 0, .int .u8 0, .int .u8 0, .int .u8 0, .int .u8 0, .int .u8 0, .int .u8 0, .int .u8 0, .int .u8 0, .int .u8 0, .int .u8 0, .int .u8 0, .int .u8 0, .int .u8 0, .int .u8 0, .int .u8 0, .int .u8 0, .int .u8 0, .int .u8 0, .int .u8 0, .int .u8 0, .int .u8 0, .int .u8 0, .int .u8 0, .int .u8 0, .int .u8 0, .int .u8 0, .int .u8 0, .int .u8 0, .int .u8 0, .int .u8 0, .int .u8 0, .int .u8 0, .int .u8 0, .int .u8 0, .int .u8 0, .int .u8 0, .int .u8 0, .int .u8 0, .int .u8 0, .int .u8 0, .int .u8 0, .int .u8 0, .int .u8 0, .int .u8 0, .int .u8 0, .int .u8 0, .int .u8 0, .int .u8 0, .int .u8 0, .int .u8 0, .int .u8 0, .int .u8 0, .int .u8 0, .int .u8 0, .int .u8 0, .int .u8 0, .int .u8 0, .int .u8 0, .int .u8 0, .int .u8 0, .int .u8 0, .int .u8 0], []⟩
def te354 : TE := ⟨.fn, 1, 8, .nilFunc, []⟩
def te355 : TE := ⟨.agg [(0, 1, false), (1, 1, false), (2, 1, false), (3, 1, false)], 4, 40, .agg #[.pointer none, .pointer none, .pointer none, .string ⟨#[]⟩], []⟩
def te356 : TE := ⟨.agg [(0, 1, false), (1, 1, false), (2, 1, false), (3, 1, false)], 4, 40, .agg #[.pointer none, .pointer none, .pointer none, .string ⟨#[]⟩], []⟩
def te357 : TE := ⟨.arr 0 16, 0, 0, .agg #[], []⟩
def te358 : TE := ⟨.agg [(0, 0, true)], 0, 0, .agg #[], []⟩
def te359 : TE := ⟨.agg [(0, 0, true)], 0, 0, .agg #[], []⟩
def te360 : TE := ⟨.int .u8, 1, 1, .int .u8 0, [.i .u8]⟩
def te361 : TE := ⟨.int .u8, 1, 1, .int .u8 0, [.i .u8]⟩
def te362 : TE := ⟨.fn, 1, 8, .nilFunc, []⟩
def te363 : TE := ⟨.int .i32, 1, 4, .int .i32 0, [.i .i32]⟩
def te364 : TE := ⟨.int .i32, 1, 4, .int .i32 0, [.i .i32]⟩
def te365 : TE := ⟨.agg [(0, 1, false), (1, 1, false), (2, 1, false), (3, 1, false), (4, 1, false), (5, 1, false), (6, 1, false), (7, 1, false), (8, 1, false), (9, 1, false), (10, 1, false)], 11, 48, .agg #[.int .u64 0, .int .u64 0, .int .u32 0, .int .u8 0, .int .u8 0, .int .u8 0, .int .u8 0, .nilFunc, .pointer none, .int .i32 0, .int .i32 0], []⟩
def te366 : TE := ⟨.agg [(0, 1, false), (1, 1, false), (2, 1, false), (3, 1, false), (4, 1, false), (5, 1, false), (6, 1, false), (7, 1, false), (8, 1, false), (9, 1, false), (10, 1, false)], 11, 48, .agg #[.int .u64 0, .int .u64 0, .int .u32 0, .int .u8 0, .int .u8 0, .int .u8 0, .int .u8 0, .nilFunc, .pointer none, .int .i32 0, .int .i32 0], []⟩

def tree : TyT := (.node 185 (.node 96 (.node 49 (.node 23 (.node 11 (.node 6 (.node 3 (.node 2 (.leaf 1 te1) (.leaf 2 te2)) (.node 4 (.leaf 3 te3) (.node 5 (.leaf 4 te4) (.leaf 5 te5)))) (.node 8 (.node 7 (.leaf 6 te6) (.leaf 7 te7)) (.node 9 (.leaf 8 te8) (.node 10 (.leaf 9 te9) (.leaf 10 te10))))) (.node 16 (.node 13 (.node 12 (.leaf 11 te11) (.leaf 12 te12)) (.node 14 (.leaf 13 te13) (.node 15 (.leaf 14 te14) (.leaf 15 te15)))) (.node 19 (.node 17 (.leaf 16 te16) (.node 18 (.leaf 17 te17) (.leaf 18 te18))) (.node 21 (.leaf 19 te19) (.node 22 (.leaf 21 te21) (.leaf 22 te22)))))) (.node 38 (.node 31 (.node 26 (.node 24 (.leaf 23 te23) (.leaf 24 te24)) (.node 28 (.leaf 26 te26) (.node 30 (.leaf 28 te28) (.leaf 30 te30)))) (.node 34 (.node 33 (.leaf 31 te31) (.leaf 33 te33)) (.node 35 (.leaf 34 te34) (.node 37 (.leaf 35 te35) (.leaf 37 te37))))) (.node 43 (.node 40 (.node 39 (.leaf 38 te38) (.leaf 39 te39)) (.node 41 (.leaf 40 te40) (.node 42 (.leaf 41 te41) (.leaf 42 te42)))) (.node 46 (.node 44 (.leaf 43 te43) (.node 45 (.leaf 44 te44) (.leaf 45 te45))) (.node 47 (.leaf 46 te46) (.node 48 (.leaf 47 te47) (.leaf 48 te48))))))) (.node 70 (.node 59 (.node 54 (.node 51 (.node 50 (.leaf 49 te49) (.leaf 50 te50)) (.node 52 (.leaf 51 te51) (.node 53 (.leaf 52 te52) (.leaf 53 te53)))) (.node 56 (.node 55 (.leaf 54 te54) (.leaf 55 te55)) (.node 57 (.leaf 56 te56) (.node 58 (.leaf 57 te57) (.leaf 58 te58))))) (.node 64 (.node 61 (.node 60 (.leaf 59 te59) (.leaf 60 te60)) (.node 62 (.leaf 61 te61) (.node 63 (.leaf 62 te62) (.leaf 63 te63)))) (.node 67 (.node 65 (.leaf 64 te64) (.node 66 (.leaf 65 te65) (.leaf 66 te66))) (.node 68 (.leaf 67 te67) (.node 69 (.leaf 68 te68) (.leaf 69 te69)))))) (.node 83 (.node 75 (.node 72 (.node 71 (.leaf 70 te70) (.leaf 71 te71)) (.node 73 (.leaf 72 te72) (.node 74 (.leaf 73 te73) (.leaf 74 te74)))) (.node 79 (.node 76 (.leaf 75 te75) (.node 78 (.leaf 76 te76) (.leaf 78 te78))) (.node 81 (.leaf 79 te79) (.node 82 (.leaf 81 te81) (.leaf 82 te82))))) (.node 89 (.node 85 (.node 84 (.leaf 83 te83) (.leaf 84 te84)) (.node 86 (.leaf 85 te85) (.node 87 (.leaf 86 te86) (.leaf 87 te87)))) (.node 92 (.node 90 (.leaf 89 te89) (.node 91 (.leaf 90 te90) (.leaf 91 te91))) (.node 93 (.leaf 92 te92) (.node 94 (.leaf 93 te93) (.leaf 94 te94)))))))) (.node 140 (.node 118 (.node 107 (.node 101 (.node 98 (.node 97 (.leaf 96 te96) (.leaf 97 te97)) (.node 99 (.leaf 98 te98) (.node 100 (.leaf 99 te99) (.leaf 100 te100)))) (.node 104 (.node 102 (.leaf 101 te101) (.leaf 102 te102)) (.node 105 (.leaf 104 te104) (.node 106 (.leaf 105 te105) (.leaf 106 te106))))) (.node 112 (.node 109 (.node 108 (.leaf 107 te107) (.leaf 108 te108)) (.node 110 (.leaf 109 te109) (.node 111 (.leaf 110 te110) (.leaf 111 te111)))) (.node 115 (.node 113 (.leaf 112 te112) (.node 114 (.leaf 113 te113) (.leaf 114 te114))) (.node 116 (.leaf 115 te115) (.node 117 (.leaf 116 te116) (.leaf 117 te117)))))) (.node 128 (.node 123 (.node 120 (.node 119 (.leaf 118 te118) (.leaf 119 te119)) (.node 121 (.leaf 120 te120) (.node 122 (.leaf 121 te121) (.leaf 122 te122)))) (.node 125 (.node 124 (.leaf 123 te123) (.leaf 124 te124)) (.node 126 (.leaf 125 te125) (.node 127 (.leaf 126 te126) (.leaf 127 te127))))) (.node 134 (.node 131 (.node 130 (.leaf 128 te128) (.leaf 130 te130)) (.node 132 (.leaf 131 te131) (.node 133 (.leaf 132 te132) (.leaf 133 te133)))) (.node 137 (.node 135 (.leaf 134 te134) (.node 136 (.leaf 135 te135) (.leaf 136 te136))) (.node 138 (.leaf 137 te137) (.node 139 (.leaf 138 te138) (.leaf 139 te139))))))) (.node 163 (.node 151 (.node 146 (.node 142 (.node 141 (.leaf 140 te140) (.leaf 141 te141)) (.node 143 (.leaf 142 te142) (.node 145 (.leaf 143 te143) (.leaf 145 te145)))) (.node 148 (.node 147 (.leaf 146 te146) (.leaf 147 te147)) (.node 149 (.leaf 148 te148) (.node 150 (.leaf 149 te149) (.leaf 150 te150))))) (.node 156 (.node 153 (.node 152 (.leaf 151 te151) (.leaf 152 te152)) (.node 154 (.leaf 153 te153) (.node 155 (.leaf 154 te154) (.leaf 155 te155)))) (.node 159 (.node 157 (.leaf 156 te156) (.node 158 (.leaf 157 te157) (.leaf 158 te158))) (.node 161 (.leaf 159 te159) (.node 162 (.leaf 161 te161) (.leaf 162 te162)))))) (.node 174 (.node 168 (.node 165 (.node 164 (.leaf 163 te163) (.leaf 164 te164)) (.node 166 (.leaf 165 te165) (.node 167 (.leaf 166 te166) (.leaf 167 te167)))) (.node 171 (.node 169 (.leaf 168 te168) (.node 170 (.leaf 169 te169) (.leaf 170 te170))) (.node 172 (.leaf 171 te171) (.node 173 (.leaf 172 te172) (.leaf 173 te173))))) (.node 179 (.node 176 (.node 175 (.leaf 174 te174) (.leaf 175 te175)) (.node 177 (.leaf 176 te176) (.node 178 (.leaf 177 te177) (.leaf 178 te178)))) (.node 182 (.node 180 (.leaf 179 te179) (.node 181 (.leaf 180 te180) (.leaf 181 te181))) (.node 183 (.leaf 182 te182) (.node 184 (.leaf 183 te183) (.leaf 184 te184))))))))) (.node 277 (.node 228 (.node 206 (.node 195 (.node 190 (.node 187 (.node 186 (.leaf 185 te185) (.leaf 186 te186)) (.node 188 (.leaf 187 te187) (.node 189 (.leaf 188 te188) (.leaf 189 te189)))) (.node 192 (.node 191 (.leaf 190 te190) (.leaf 191 te191)) (.node 193 (.leaf 192 te192) (.node 194 (.leaf 193 te193) (.leaf 194 te194))))) (.node 200 (.node 197 (.node 196 (.leaf 195 te195) (.leaf 196 te196)) (.node 198 (.leaf 197 te197) (.node 199 (.leaf 198 te198) (.leaf 199 te199)))) (.node 203 (.node 201 (.leaf 200 te200) (.node 202 (.leaf 201 te201) (.leaf 202 te202))) (.node 204 (.leaf 203 te203) (.node 205 (.leaf 204 te204) (.leaf 205 te205)))))) (.node 216 (.node 211 (.node 208 (.node 207 (.leaf 206 te206) (.leaf 207 te207)) (.node 209 (.leaf 208 te208) (.node 210 (.leaf 209 te209) (.leaf 210 te210)))) (.node 213 (.node 212 (.leaf 211 te211) (.leaf 212 te212)) (.node 214 (.leaf 213 te213) (.node 215 (.leaf 214 te214) (.leaf 215 te215))))) (.node 221 (.node 218 (.node 217 (.leaf 216 te216) (.leaf 217 te217)) (.node 219 (.leaf 218 te218) (.node 220 (.leaf 219 te219) (.leaf 220 te220)))) (.node 224 (.node 222 (.leaf 221 te221) (.node 223 (.leaf 222 te222) (.leaf 223 te223))) (.node 226 (.leaf 224 te224) (.node 227 (.leaf 226 te226) (.leaf 227 te227))))))) (.node 251 (.node 239 (.node 234 (.node 231 (.node 230 (.leaf 228 te228) (.leaf 230 te230)) (.node 232 (.leaf 231 te231) (.node 233 (.leaf 232 te232) (.leaf 233 te233)))) (.node 236 (.node 235 (.leaf 234 te234) (.leaf 235 te235)) (.node 237 (.leaf 236 te236) (.node 238 (.leaf 237 te237) (.leaf 238 te238))))) (.node 245 (.node 241 (.node 240 (.leaf 239 te239) (.leaf 240 te240)) (.node 243 (.leaf 241 te241) (.node 244 (.leaf 243 te243) (.leaf 244 te244)))) (.node 248 (.node 246 (.leaf 245 te245) (.node 247 (.leaf 246 te246) (.leaf 247 te247))) (.node 249 (.leaf 248 te248) (.node 250 (.leaf 249 te249) (.leaf 250 te250)))))) (.node 266 (.node 259 (.node 256 (.node 255 (.leaf 251 te251) (.leaf 255 te255)) (.node 257 (.leaf 256 te256) (.node 258 (.leaf 257 te257) (.leaf 258 te258)))) (.node 263 (.node 260 (.leaf 259 te259) (.node 261 (.leaf 260 te260) (.leaf 261 te261))) (.node 264 (.leaf 263 te263) (.node 265 (.leaf 264 te264) (.leaf 265 te265))))) (.node 271 (.node 268 (.node 267 (.leaf 266 te266) (.leaf 267 te267)) (.node 269 (.leaf 268 te268) (.node 270 (.leaf 269 te269) (.leaf 270 te270)))) (.node 274 (.node 272 (.leaf 271 te271) (.node 273 (.leaf 272 te272) (.leaf 273 te273))) (.node 275 (.leaf 274 te274) (.node 276 (.leaf 275 te275) (.leaf 276 te276)))))))) (.node 323 (.node 300 (.node 289 (.node 283 (.node 280 (.node 278 (.leaf 277 te277) (.leaf 278 te278)) (.node 281 (.leaf 280 te280) (.node 282 (.leaf 281 te281) (.leaf 282 te282)))) (.node 285 (.node 284 (.leaf 283 te283) (.leaf 284 te284)) (.node 286 (.leaf 285 te285) (.node 287 (.leaf 286 te286) (.leaf 287 te287))))) (.node 294 (.node 291 (.node 290 (.leaf 289 te289) (.leaf 290 te290)) (.node 292 (.leaf 291 te291) (.node 293 (.leaf 292 te292) (.leaf 293 te293)))) (.node 297 (.node 295 (.leaf 294 te294) (.node 296 (.leaf 295 te295) (.leaf 296 te296))) (.node 298 (.leaf 297 te297) (.node 299 (.leaf 298 te298) (.leaf 299 te299)))))) (.node 311 (.node 305 (.node 302 (.node 301 (.leaf 300 te300) (.leaf 301 te301)) (.node 303 (.leaf 302 te302) (.node 304 (.leaf 303 te303) (.leaf 304 te304)))) (.node 308 (.node 306 (.leaf 305 te305) (.node 307 (.leaf 306 te306) (.leaf 307 te307))) (.node 309 (.leaf 308 te308) (.node 310 (.leaf 309 te309) (.leaf 310 te310))))) (.node 317 (.node 313 (.node 312 (.leaf 311 te311) (.leaf 312 te312)) (.node 315 (.leaf 313 te313) (.node 316 (.leaf 315 te315) (.leaf 316 te316)))) (.node 320 (.node 318 (.leaf 317 te317) (.node 319 (.leaf 318 te318) (.leaf 319 te319))) (.node 321 (.leaf 320 te320) (.node 322 (.leaf 321 te321) (.leaf 322 te322))))))) (.node 345 (.node 334 (.node 328 (.node 325 (.node 324 (.leaf 323 te323) (.leaf 324 te324)) (.node 326 (.leaf 325 te325) (.node 327 (.leaf 326 te326) (.leaf 327 te327)))) (.node 331 (.node 330 (.leaf 328 te328) (.leaf 330 te330)) (.node 332 (.leaf 331 te331) (.node 333 (.leaf 332 te332) (.leaf 333 te333))))) (.node 339 (.node 336 (.node 335 (.leaf 334 te334) (.leaf 335 te335)) (.node 337 (.leaf 336 te336) (.node 338 (.leaf 337 te337) (.leaf 338 te338)))) (.node 342 (.node 340 (.leaf 339 te339) (.node 341 (.leaf 340 te340) (.leaf 341 te341))) (.node 343 (.leaf 342 te342) (.node 344 (.leaf 343 te343) (.leaf 344 te344)))))) (.node 356 (.node 350 (.node 347 (.node 346 (.leaf 345 te345) (.leaf 346 te346)) (.node 348 (.leaf 347 te347) (.node 349 (.leaf 348 te348) (.leaf 349 te349)))) (.node 353 (.node 351 (.leaf 350 te350) (.node 352 (.leaf 351 te351) (.leaf 352 te352))) (.node 354 (.leaf 353 te353) (.node 355 (.leaf 354 te354) (.leaf 355 te355))))) (.node 361 (.node 358 (.node 357 (.leaf 356 te356) (.leaf 357 te357)) (.node 359 (.leaf 358 te358) (.node 360 (.leaf 359 te359) (.leaf 360 te360)))) (.node 364 (.node 362 (.leaf 361 te361) (.node 363 (.leaf 362 te362) (.leaf 363 te363))) (.node 365 (.leaf 364 te364) (.node 366 (.leaf 365 te365) (.leaf 366 te366))))))))))

def T : Nat → TE := tree.look

theorem tree_ok : tree.leaves.map (fun x => (bareTE x.2, x.2.ks)) = tree.leaves.map (fun x => (teOf Tryz.prog x.1, ksWant Tryz.prog x)) := by kernel_rfl

theorem hT : TOK Tryz.prog T := TyT.tok tree_ok

theorem hM : Tryz.prog.follows .mixedOrders = true := by kernel_rfl

def an2 : Nat → List DI := fun _ => []
noncomputable def fe2 : FE := feOf Tryz.f2 an2
def an3 : Nat → List DI := fun _ => []
noncomputable def fe3 : FE := feOf Tryz.f3 an3
def an4 : Nat → List DI := fun _ => []
noncomputable def fe4 : FE := feOf Tryz.f4 an4
def an5 : Nat → List DI := fun _ => []
noncomputable def fe5 : FE := feOf Tryz.f5 an5
def an6 : Nat → List DI := fun _ => []
noncomputable def fe6 : FE := feOf Tryz.f6 an6
def an7 : Nat → List DI := annOf [(19, [.q 0 0, .q 1 0, .q 2 0, .q 3 0, .q 4 0, .q 5 0, .q 6 0, .q 7 0, .q 8 0, .q 9 0, .q 10 0, .q 11 0, .q 12 0, .q 13 0, .q 14 0, .q 15 0, .c 16])]
noncomputable def fe7 : FE := feOf Tryz.f7 an7
def an8 : Nat → List DI := annOf [(7, [.q 6 0, .c 7, .q 0 1, .q 1 1, .q 2 1, .q 3 1, .q 4 1, .q 5 1, .c 8, .q 9 0, .q 10 0, .q 11 0, .q 12 0])]
noncomputable def fe8 : FE := feOf Tryz.f8 an8
def an9 : Nat → List DI := annOf [(9, [.q 6 0, .c 7, .q 0 1, .q 1 1, .q 2 1, .q 3 1, .q 4 1, .q 5 1, .q 8 1, .c 9, .q 10 0, .q 11 0, .q 12 0, .q 13 0])]
noncomputable def fe9 : FE := feOf Tryz.f9 an9
def an10 : Nat → List DI := annOf [(7, [.q 0 0, .q 1 0, .q 2 0, .q 3 0, .q 4 0, .q 5 0, .q 6 0, .c 7, .q 8 0])]
noncomputable def fe10 : FE := feOf Tryz.f10 an10
def an11 : Nat → List DI := annOf [(4, [.q 0 0, .q 1 0, .c 2, .q 3 1, .q 4 1, .c 5, .q 6 2, .q 7 2, .c 8, .q 9 3, .q 10 3, .c 11, .q 12 4, .q 13 4, .c 14, .q 15 5, .q 16 5, .c 17, .q 18 6, .q 19 6, .c 20, .q 21 7, .q 22 7, .q 23 7, .q 24 7, .q 25 0, .z 26, .c 27]), (14, [.q 4 0, .q 5 0, .c 6, .q 2 1, .q 3 1, .q 7 0, .c 8, .q 0 2, .q 1 2, .c 9, .q 10 0, .c 11])]
noncomputable def fe11 : FE := feOf Tryz.f11 an11
def an12 : Nat → List DI := fun _ => []
noncomputable def fe12 : FE := feOf Tryz.f12 an12
def an13 : Nat → List DI := fun _ => []
noncomputable def fe13 : FE := feOf Tryz.f13 an13
def an14 : Nat → List DI := fun _ => []
noncomputable def fe14 : FE := feOf Tryz.f14 an14
def an15 : Nat → List DI := fun _ => []
noncomputable def fe15 : FE := feOf Tryz.f15 an15
def an16 : Nat → List DI := fun _ => []
noncomputable def fe16 : FE := feOf Tryz.f16 an16
def an17 : Nat → List DI := fun _ => []
noncomputable def fe17 : FE := feOf Tryz.f17 an17
def an18 : Nat → List DI := annOf [(7, [.q 0 0, .q 1 0, .q 2 0, .q 3 0, .q 4 0, .q 5 0, .q 6 0, .q 7 0, .q 8 0, .q 9 0, .q 10 0, .c 11, .q 12 0])]
noncomputable def fe18 : FE := feOf Tryz.f18 an18
def an19 : Nat → List DI := fun _ => []
noncomputable def fe19 : FE := feOf Tryz.f19 an19
def an20 : Nat → List DI := fun _ => []
noncomputable def fe20 : FE := feOf Tryz.f20 an20
def an21 : Nat → List DI := fun _ => []
noncomputable def fe21 : FE := feOf Tryz.f21 an21
def an22 : Nat → List DI := fun _ => []
noncomputable def fe22 : FE := feOf Tryz.f22 an22
def an23 : Nat → List DI := fun _ => []
noncomputable def fe23 : FE := feOf Tryz.f23 an23
def an24 : Nat → List DI := fun _ => []
noncomputable def fe24 : FE := feOf Tryz.f24 an24
def an25 : Nat → List DI := fun _ => []
noncomputable def fe25 : FE := feOf Tryz.f25 an25
def an26 : Nat → List DI := fun _ => []
noncomputable def fe26 : FE := feOf Tryz.f26 an26
def an27 : Nat → List DI := fun _ => []
noncomputable def fe27 : FE := feOf Tryz.f27 an27
def an28 : Nat → List DI := fun _ => []
noncomputable def fe28 : FE := feOf Tryz.f28 an28
def an29 : Nat → List DI := fun _ => []
noncomputable def fe29 : FE := feOf Tryz.f29 an29
def an30 : Nat → List DI := fun _ => []
noncomputable def fe30 : FE := feOf Tryz.f30 an30
def an31 : Nat → List DI := fun _ => []
noncomputable def fe31 : FE := feOf Tryz.f31 an31
def an32 : Nat → List DI := annOf [(5, [.q 3 0, .q 4 0, .c 5, .q 1 1, .q 2 1, .q 6 0, .c 7, .q 0 2, .c 8, .q 9 0])]
noncomputable def fe32 : FE := feOf Tryz.f32 an32
def an33 : Nat → List DI := fun _ => []
noncomputable def fe33 : FE := feOf Tryz.f33 an33
def an34 : Nat → List DI := fun _ => []
noncomputable def fe34 : FE := feOf Tryz.f34 an34
def an35 : Nat → List DI := annOf [(1, [.q 2 0, .q 3 0, .c 4, .q 0 1, .q 1 1, .q 5 0, .c 6])]
noncomputable def fe35 : FE := feOf Tryz.f35 an35
def an36 : Nat → List DI := fun _ => []
noncomputable def fe36 : FE := feOf Tryz.f36 an36
def an37 : Nat → List DI := annOf [(1, [.q 0 0, .c 1, .q 2 1, .c 3, .z 4, .z 5, .c 6, .c 7])]
noncomputable def fe37 : FE := feOf Tryz.f37 an37
def an38 : Nat → List DI := fun _ => []
noncomputable def fe38 : FE := feOf Tryz.f38 an38
def an39 : Nat → List DI := fun _ => []
noncomputable def fe39 : FE := feOf Tryz.f39 an39
def an40 : Nat → List DI := annOf [(6, [.q 0 0, .q 1 0, .q 2 0, .q 3 0, .q 4 0, .q 5 0, .q 6 0, .q 7 0, .q 8 0])]
noncomputable def fe40 : FE := feOf Tryz.f40 an40
def an41 : Nat → List DI := fun _ => []
noncomputable def fe41 : FE := feOf Tryz.f41 an41
def an42 : Nat → List DI := fun _ => []
noncomputable def fe42 : FE := feOf Tryz.f42 an42
def an43 : Nat → List DI := annOf [(4, [.q 0 0, .q 1 0, .q 2 0, .q 3 0, .c 4, .q 5 1, .q 6 1, .q 7 1, .q 8 1, .c 9, .q 10 0, .q 11 0])]
noncomputable def fe43 : FE := feOf Tryz.f43 an43
def an44 : Nat → List DI := fun _ => []
noncomputable def fe44 : FE := feOf Tryz.f44 an44
def an45 : Nat → List DI := fun _ => []
noncomputable def fe45 : FE := feOf Tryz.f45 an45
def an46 : Nat → List DI := fun _ => []
noncomputable def fe46 : FE := feOf Tryz.f46 an46
def an47 : Nat → List DI := fun _ => []
noncomputable def fe47 : FE := feOf Tryz.f47 an47
def an48 : Nat → List DI := annOf [(1, [.q 2 0, .q 3 0, .q 4 0, .c 5, .q 0 1, .q 1 1, .q 6 0, .z 7, .c 8]), (6, [.q 3 0, .q 4 0, .q 5 0, .q 6 0, .q 7 0, .c 8, .q 0 1, .q 1 1, .q 2 1, .q 9 0, .c 10])]
noncomputable def fe48 : FE := feOf Tryz.f48 an48
def an49 : Nat → List DI := annOf [(5, [.q 0 0, .q 1 0, .q 2 0, .q 3 0, .q 4 0, .q 5 0, .c 6, .q 7 0]), (8, [.q 1 0, .q 2 0, .q 3 0, .q 4 0, .q 5 0, .q 6 0, .q 7 0, .q 8 0, .q 9 0, .q 10 0, .c 11, .q 0 1, .q 12 0, .q 13 0, .q 14 0, .q 15 0])]
noncomputable def fe49 : FE := feOf Tryz.f49 an49
def an50 : Nat → List DI := fun _ => []
noncomputable def fe50 : FE := feOf Tryz.f50 an50
def an51 : Nat → List DI := annOf [(4, [.q 0 0, .q 1 0, .q 2 0, .q 3 0, .q 4 0, .q 5 0, .q 6 0, .q 7 0, .c 8, .q 9 0])]
noncomputable def fe51 : FE := feOf Tryz.f51 an51
def an52 : Nat → List DI := fun _ => []
noncomputable def fe52 : FE := feOf Tryz.f52 an52
def an53 : Nat → List DI := fun _ => []
noncomputable def fe53 : FE := feOf Tryz.f53 an53
def an54 : Nat → List DI := annOf [(10, [.q 1 0, .c 2, .q 3 1, .c 4, .q 0 2, .c 5, .q 6 0, .q 7 0, .c 8, .q 9 0])]
noncomputable def fe54 : FE := feOf Tryz.f54 an54
def an55 : Nat → List DI := fun _ => []
noncomputable def fe55 : FE := feOf Tryz.f55 an55
def an56 : Nat → List DI := fun _ => []
noncomputable def fe56 : FE := feOf Tryz.f56 an56
def an57 : Nat → List DI := annOf [(3, [.q 0 0, .q 1 0, .q 2 0, .q 3 0, .q 4 0, .q 5 0, .q 6 0, .q 7 0, .q 8 0, .q 9 0, .q 10 0, .q 11 0, .q 12 0, .q 13 0, .q 14 0, .q 15 0, .q 16 0, .q 17 0, .q 18 0, .q 19 0, .q 20 0, .q 21 0, .q 22 0, .q 23 0, .q 24 0, .q 25 0, .q 26 0, .q 27 0, .q 28 0, .q 29 0, .q 30 0, .q 31 0, .q 32 0, .q 33 0, .q 34 0, .q 35 0, .q 36 0, .q 37 0, .q 38 0, .q 39 0, .q 40 0, .q 41 0, .q 42 0, .q 43 0, .q 44 0, .q 45 0, .q 46 0, .q 47 0, .q 48 0, .q 49 0, .q 50 0, .q 51 0, .q 52 0, .q 53 0, .q 54 0, .q 55 0, .q 56 0, .q 57 0, .q 58 0, .q 59 0, .q 60 0, .q 61 0, .q 62 0, .q 63 0, .q 64 0, .q 65 0, .q 66 0, .q 67 0, .q 68 0, .q 69 0, .q 70 0, .q 71 0, .q 72 0, .q 73 0, .q 74 0, .q 75 0, .q 76 0, .q 77 0, .q 78 0, .q 79 0, .q 80 0, .q 81 0, .q 82 0, .q 83 0, .q 84 0, .q 85 0, .q 86 0, .q 87 0, .q 88 0, .q 89 0, .q 90 0, .q 91 0, .q 92 0, .q 93 0]), (5, [.q 0 0, .q 1 0, .q 2 0, .q 3 0, .q 4 0, .q 5 0, .q 6 0, .q 7 0, .q 8 0, .q 9 0, .q 10 0])]
noncomputable def fe57 : FE := feOf Tryz.f57 an57
def an58 : Nat → List DI := annOf [(2, [.q 0 0, .q 1 0, .q 2 0, .q 3 0, .q 4 0, .q 5 0, .q 6 0, .q 7 0, .q 8 0, .q 9 0, .q 10 0, .q 11 0, .c 12, .q 13 0, .q 14 0]), (10, [.q 3 0, .q 4 0, .c 5, .q 2 1, .q 6 0, .c 7, .q 0 2, .q 1 2, .c 8, .q 9 0, .c 10])]
noncomputable def fe58 : FE := feOf Tryz.f58 an58
def an59 : Nat → List DI := fun _ => []
noncomputable def fe59 : FE := feOf Tryz.f59 an59
def an60 : Nat → List DI := fun _ => []
noncomputable def fe60 : FE := feOf Tryz.f60 an60
def an61 : Nat → List DI := fun _ => []
noncomputable def fe61 : FE := feOf Tryz.f61 an61
def an62 : Nat → List DI := fun _ => []
noncomputable def fe62 : FE := feOf Tryz.f62 an62
def an63 : Nat → List DI := annOf [(17, [.q 0 0, .q 1 0, .q 2 0, .q 3 0, .q 4 0, .q 5 0, .q 6 0, .q 7 0, .q 8 0, .q 9 0, .q 10 0, .q 11 0, .c 12, .q 13 0, .q 14 0])]
noncomputable def fe63 : FE := feOf Tryz.f63 an63
def an64 : Nat → List DI := fun _ => []
noncomputable def fe64 : FE := feOf Tryz.f64 an64
def an65 : Nat → List DI := fun _ => []
noncomputable def fe65 : FE := feOf Tryz.f65 an65
def an66 : Nat → List DI := fun _ => []
noncomputable def fe66 : FE := feOf Tryz.f66 an66
def an67 : Nat → List DI := fun _ => []
noncomputable def fe67 : FE := feOf Tryz.f67 an67
def an68 : Nat → List DI := fun _ => []
noncomputable def fe68 : FE := feOf Tryz.f68 an68
def an69 : Nat → List DI := fun _ => []
noncomputable def fe69 : FE := feOf Tryz.f69 an69
def an70 : Nat → List DI := fun _ => []
noncomputable def fe70 : FE := feOf Tryz.f70 an70
def an71 : Nat → List DI := annOf [(4, [.q 1 0, .c 2, .q 0 1, .z 3, .z 4, .c 5, .c 6, .q 7 0]), (11, [.f 8 4 9 11, .c 6, .q 0 1, .q 1 1, .q 2 1, .q 3 1, .q 4 1, .q 5 1, .c 7, .q 8 0, .c 9, .q 10 1, .c 11, .q 10 0, .c 11, .q 8 1, .c 9]), (16, [.f 6 4 7 9, .c 4, .q 0 1, .q 1 1, .q 2 1, .q 3 1, .c 5, .q 6 0, .c 7, .q 8 1, .c 9, .q 8 0, .c 9, .q 6 1, .c 7]), (21, [.q 0 0, .q 1 0, .q 2 0, .q 3 0, .c 4, .q 5 0, .q 6 1]), (31, [.q 0 0, .q 1 0, .q 2 0, .q 3 0, .q 4 0, .q 5 0, .q 6 0, .c 7, .q 8 0])]
noncomputable def fe71 : FE := feOf Tryz.f71 an71
def an72 : Nat → List DI := fun _ => []
noncomputable def fe72 : FE := feOf Tryz.f72 an72
def an73 : Nat → List DI := fun _ => []
noncomputable def fe73 : FE := feOf Tryz.f73 an73
def an74 : Nat → List DI := fun _ => []
noncomputable def fe74 : FE := feOf Tryz.f74 an74
def an75 : Nat → List DI := annOf [(10, [.q 10 0, .q 11 0, .q 12 0, .c 13, .q 5 1, .q 6 1, .q 7 1, .q 8 1, .q 9 1, .q 14 0, .c 15, .c 16, .q 1 3, .q 2 3, .q 3 3, .q 4 3, .c 17, .q 0 4, .q 18 0, .q 19 0, .c 20])]
noncomputable def fe75 : FE := feOf Tryz.f75 an75
def an76 : Nat → List DI := annOf [(8, [.q 4 0, .q 5 0, .q 6 0, .c 7, .q 0 1, .q 1 1, .q 2 1, .q 3 1, .q 8 0, .z 9, .c 10])]
noncomputable def fe76 : FE := feOf Tryz.f76 an76
def an77 : Nat → List DI := annOf [(10, [.q 5 0, .q 6 0, .q 7 0, .q 8 0, .q 9 0, .q 10 0, .q 11 0, .q 12 0, .q 13 0, .q 14 0, .q 15 0, .c 16, .c 17, .q 1 2, .q 2 2, .q 3 2, .q 4 2, .c 18, .q 0 3, .q 19 0, .q 20 0, .c 21]), (12, [.q 5 0, .q 6 0, .c 7, .c 8, .q 1 2, .q 2 2, .q 3 2, .q 4 2, .c 9, .q 0 3, .q 10 0, .q 11 0, .c 12]), (14, [.q 5 0, .q 6 0, .c 7, .c 8, .q 1 2, .q 2 2, .q 3 2, .q 4 2, .c 9, .q 0 3, .q 10 0, .q 11 0, .c 12]), (8, [.q 5 0, .q 6 0, .q 7 0, .q 8 0, .q 9 0, .q 10 0, .c 11, .c 12, .q 1 2, .q 2 2, .q 3 2, .q 4 2, .c 13, .q 0 3, .q 14 0, .q 15 0, .c 16])]
noncomputable def fe77 : FE := feOf Tryz.f77 an77
def an78 : Nat → List DI := fun _ => []
noncomputable def fe78 : FE := feOf Tryz.f78 an78
def an79 : Nat → List DI := fun _ => []
noncomputable def fe79 : FE := feOf Tryz.f79 an79
def an80 : Nat → List DI := fun _ => []
noncomputable def fe80 : FE := feOf Tryz.f80 an80
def an81 : Nat → List DI := annOf [(0, [.q 0 0, .q 1 0, .q 2 0, .q 3 0, .q 4 0, .q 5 0, .q 6 0, .q 7 0, .q 8 0, .q 9 0, .q 10 0, .q 11 0, .q 12 0, .q 13 0, .q 14 0, .q 15 0, .q 16 0, .q 17 0, .q 18 0, .q 19 0, .q 20 0, .q 21 0, .q 22 0, .q 23 0, .q 24 0, .q 25 0, .q 26 0, .q 27 0, .q 28 0, .q 29 0, .q 30 0, .q 31 0, .q 32 0, .q 33 0])]
noncomputable def fe81 : FE := feOf Tryz.f81 an81
def an82 : Nat → List DI := annOf [(4, [.q 0 0, .q 1 0, .q 2 0, .q 3 0, .q 4 0, .q 5 0, .q 6 0, .q 7 0, .q 8 0, .q 9 0]), (6, [.q 2 0, .q 3 0, .c 4, .c 5, .q 0 2, .q 1 2, .c 6, .q 7 0, .c 8])]
noncomputable def fe82 : FE := feOf Tryz.f82 an82
def an83 : Nat → List DI := annOf [(2, [.q 0 0, .q 1 0, .q 2 0, .q 3 0, .q 4 0, .q 5 0, .q 6 0, .q 7 0, .q 8 0, .q 9 0, .q 10 0, .q 11 0, .q 12 0, .q 13 0, .q 14 0, .q 15 0, .q 16 0, .q 17 0, .q 18 0, .q 19 0, .q 20 0, .q 21 0, .q 22 0])]
noncomputable def fe83 : FE := feOf Tryz.f83 an83
def an84 : Nat → List DI := fun _ => []
noncomputable def fe84 : FE := feOf Tryz.f84 an84
def an85 : Nat → List DI := annOf [(4, [.q 0 0, .q 1 0, .q 2 0, .q 3 0, .q 4 0, .q 5 0, .q 6 0, .q 7 0, .q 8 0, .q 9 0, .q 10 0, .q 11 0, .q 12 0, .c 13, .q 14 0]), (6, [.q 0 0, .q 1 0, .q 5 0, .q 6 0, .q 7 0, .q 8 0, .q 9 0, .q 10 0, .q 11 0, .q 12 0, .q 13 0, .q 14 0, .c 15, .q 2 1, .q 3 1, .q 4 1, .q 16 0, .c 17])]
noncomputable def fe85 : FE := feOf Tryz.f85 an85
def an86 : Nat → List DI := annOf [(10, [.q 0 0, .q 1 0, .q 6 0, .q 7 0, .q 8 0, .q 9 0, .q 10 0, .q 11 0, .q 12 0, .q 13 0, .q 14 0, .q 15 0, .q 16 0, .c 17, .q 2 1, .q 3 1, .q 4 1, .q 5 1, .q 18 0, .c 19])]
noncomputable def fe86 : FE := feOf Tryz.f86 an86
def an87 : Nat → List DI := annOf [(10, [.q 0 0, .q 1 0, .q 6 0, .q 7 0, .q 8 0, .q 9 0, .q 10 0, .q 11 0, .q 12 0, .q 13 0, .q 14 0, .q 15 0, .q 16 0, .c 17, .q 2 1, .q 3 1, .q 4 1, .q 5 1, .q 18 0, .c 19])]
noncomputable def fe87 : FE := feOf Tryz.f87 an87
def an88 : Nat → List DI := fun _ => []
noncomputable def fe88 : FE := feOf Tryz.f88 an88
def an89 : Nat → List DI := annOf [(3, [.q 0 0, .q 1 0, .q 4 0, .q 5 0, .q 6 0, .q 7 0, .q 8 0, .q 9 0, .q 10 0, .q 11 0, .q 12 0, .c 13, .q 2 1, .q 3 1, .q 14 0, .c 15])]
noncomputable def fe89 : FE := feOf Tryz.f89 an89
def an90 : Nat → List DI := annOf [(5, [.q 0 0, .q 1 0, .q 2 0, .q 3 0, .q 4 0, .q 5 0, .q 6 0, .q 7 0, .q 8 0, .q 9 0, .q 10 0, .q 11 0, .q 12 0, .c 13, .q 14 0, .q 15 0]), (11, [.q 0 0, .q 1 0, .q 5 0, .q 6 0, .q 7 0, .q 8 0, .q 9 0, .q 10 0, .q 11 0, .q 12 0, .q 13 0, .q 14 0, .c 15, .q 2 1, .q 3 1, .q 4 1, .q 16 0, .c 17]), (16, [.q 0 0, .q 1 0, .q 2 0, .q 3 0, .q 4 0, .q 5 0, .q 6 0, .q 7 0, .q 8 0, .c 9, .q 10 0]), (17, [.q 0 0, .q 1 0, .q 5 0, .q 6 0, .q 7 0, .q 8 0, .q 9 0, .q 10 0, .q 11 0, .q 12 0, .q 13 0, .q 14 0, .c 15, .q 2 1, .q 3 1, .q 4 1, .q 16 0, .c 17]), (22, [.q 0 0, .q 1 0, .q 2 0, .q 3 0, .q 4 0, .q 5 0, .q 6 0, .q 7 0, .q 8 0, .c 9, .q 10 0]), (23, [.q 0 0, .q 1 0, .q 5 0, .q 6 0, .q 7 0, .q 8 0, .q 9 0, .q 10 0, .q 11 0, .q 12 0, .q 13 0, .q 14 0, .c 15, .q 2 1, .q 3 1, .q 4 1, .q 16 0, .c 17])]
noncomputable def fe90 : FE := feOf Tryz.f90 an90
def an91 : Nat → List DI := fun _ => []
noncomputable def fe91 : FE := feOf Tryz.f91 an91
def an92 : Nat → List DI := annOf [(1, [.q 0 0, .q 1 0, .q 4 0, .q 5 0, .q 6 0, .q 7 0, .q 8 0, .q 9 0, .q 10 0, .q 11 0, .q 12 0, .c 13, .q 2 1, .q 3 1, .q 14 0, .c 15]), (3, [.q 0 0, .q 1 0, .q 2 0, .q 3 0, .q 4 0, .q 5 0, .q 6 0, .q 7 0, .q 8 0, .q 9 0, .q 10 0, .q 11 0, .c 12, .q 13 0, .q 14 0]), (5, [.q 0 0, .q 1 0, .q 2 0, .q 3 0, .q 4 0, .q 5 0, .q 6 0, .q 7 0, .q 8 0, .q 9 0, .q 10 0, .q 11 0, .c 12, .q 13 0]), (8, [.q 0 0, .q 1 0, .q 4 0, .q 5 0, .q 6 0, .q 7 0, .q 8 0, .q 9 0, .q 10 0, .q 11 0, .q 12 0, .c 13, .q 2 1, .q 3 1, .q 14 0, .c 15])]
noncomputable def fe92 : FE := feOf Tryz.f92 an92
def an93 : Nat → List DI := annOf [(1, [.q 0 0, .q 1 0, .q 4 0, .q 5 0, .q 6 0, .q 7 0, .q 8 0, .q 9 0, .q 10 0, .q 11 0, .q 12 0, .c 13, .q 2 1, .q 3 1, .q 14 0, .c 15]), (3, [.q 0 0, .q 1 0, .q 2 0, .q 3 0, .q 4 0, .q 5 0, .q 6 0, .q 7 0, .q 8 0, .q 9 0, .q 10 0, .q 11 0, .c 12, .q 13 0]), (5, [.q 0 0, .q 1 0, .q 2 0, .q 3 0, .q 4 0, .q 5 0, .q 6 0, .q 7 0, .q 8 0, .q 9 0, .q 10 0, .q 11 0, .c 12, .q 13 0, .q 14 0]), (8, [.q 0 0, .q 1 0, .q 4 0, .q 5 0, .q 6 0, .q 7 0, .q 8 0, .q 9 0, .q 10 0, .q 11 0, .q 12 0, .c 13, .q 2 1, .q 3 1, .q 14 0, .c 15]), (10, [.q 0 0, .q 1 0, .q 4 0, .q 5 0, .q 6 0, .q 7 0, .q 8 0, .q 9 0, .q 10 0, .q 11 0, .q 12 0, .c 13, .q 2 1, .q 3 1, .q 14 0, .c 15]), (13, [.q 0 0, .q 1 0, .q 2 0, .q 3 0, .q 4 0, .q 5 0, .q 6 0, .q 7 0, .q 8 0, .q 9 0, .q 10 0, .q 11 0, .c 12, .q 13 0]), (15, [.q 0 0, .q 1 0, .q 2 0, .q 3 0, .q 4 0, .q 5 0, .q 6 0, .q 7 0, .q 8 0, .q 9 0, .q 10 0, .q 11 0, .c 12, .q 13 0, .q 14 0]), (18, [.q 0 0, .q 1 0, .q 4 0, .q 5 0, .q 6 0, .q 7 0, .q 8 0, .q 9 0, .q 10 0, .q 11 0, .q 12 0, .c 13, .q 2 1, .q 3 1, .q 14 0, .c 15]), (21, [.q 0 0, .q 1 0, .q 4 0, .q 5 0, .q 6 0, .q 7 0, .q 8 0, .q 9 0, .q 10 0, .q 11 0, .q 12 0, .c 13, .q 2 1, .q 3 1, .q 14 0, .c 15])]
noncomputable def fe93 : FE := feOf Tryz.f93 an93
def an94 : Nat → List DI := fun _ => []
noncomputable def fe94 : FE := feOf Tryz.f94 an94
def an95 : Nat → List DI := fun _ => []
noncomputable def fe95 : FE := feOf Tryz.f95 an95
def an96 : Nat → List DI := annOf [(1, [.q 0 0, .q 1 0, .q 2 0, .q 3 0, .q 4 0, .q 5 0, .q 6 0, .q 7 0, .q 8 0, .q 9 0, .q 10 0, .q 11 0, .c 12, .q 13 0, .q 14 0]), (6, [.q 0 0, .q 1 0, .q 2 0, .q 3 0, .c 4, .q 5 0])]
noncomputable def fe96 : FE := feOf Tryz.f96 an96
def an98 : Nat → List DI := fun _ => []
noncomputable def fe98 : FE := feOf Tryz.f98 an98
def an99 : Nat → List DI := fun _ => []
noncomputable def fe99 : FE := feOf Tryz.f99 an99
def an100 : Nat → List DI := fun _ => []
noncomputable def fe100 : FE := feOf Tryz.f100 an100
def an101 : Nat → List DI := annOf [(10, [.q 4 0, .c 5, .q 0 1, .q 1 1, .q 2 1, .q 3 1, .q 6 0, .q 7 0])]
noncomputable def fe101 : FE := feOf Tryz.f101 an101
def an102 : Nat → List DI := fun _ => []
noncomputable def fe102 : FE := feOf Tryz.f102 an102
def an103 : Nat → List DI := fun _ => []
noncomputable def fe103 : FE := feOf Tryz.f103 an103
def an104 : Nat → List DI := annOf [(5, [.q 7 0, .c 8, .q 3 1, .q 4 1, .q 5 1, .q 6 1, .c 9, .q 0 2, .q 1 2, .q 2 2, .c 10])]
noncomputable def fe104 : FE := feOf Tryz.f104 an104
def an105 : Nat → List DI := fun _ => []
noncomputable def fe105 : FE := feOf Tryz.f105 an105
def an106 : Nat → List DI := fun _ => []
noncomputable def fe106 : FE := feOf Tryz.f106 an106
def an107 : Nat → List DI := annOf [(5, [.q 8 0, .c 9, .q 3 1, .q 4 1, .q 5 1, .q 6 1, .q 7 1, .c 10, .q 0 2, .q 1 2, .q 2 2, .q 11 0, .c 12])]
noncomputable def fe107 : FE := feOf Tryz.f107 an107
def an108 : Nat → List DI := fun _ => []
noncomputable def fe108 : FE := feOf Tryz.f108 an108
def an109 : Nat → List DI := annOf [(8, [.q 0 0, .q 1 0, .q 2 0, .q 3 0, .q 4 0, .q 5 0, .q 6 0, .q 7 0, .q 8 0, .q 9 0, .q 10 0, .q 11 0, .q 12 0, .q 13 0, .q 14 0, .q 15 0, .c 16, .q 17 0, .q 18 0, .q 19 0])]
noncomputable def fe109 : FE := feOf Tryz.f109 an109
def an110 : Nat → List DI := annOf [(4, [.q 8 0, .c 9, .q 4 1, .q 5 1, .q 6 1, .q 7 1, .q 10 0, .c 11, .q 12 2, .q 13 2, .c 14, .q 0 3, .q 1 3, .q 2 3, .q 3 3, .c 15]), (9, [.q 8 0, .q 9 0, .q 10 0, .q 11 0, .q 12 0, .q 13 0, .q 14 0, .q 15 0, .c 16, .q 4 1, .q 5 1, .q 6 1, .q 7 1, .q 17 0, .c 18, .q 19 2, .q 20 2, .c 21, .q 0 3, .q 1 3, .q 2 3, .q 3 3, .c 22])]
noncomputable def fe110 : FE := feOf Tryz.f110 an110
def an111 : Nat → List DI := fun _ => []
noncomputable def fe111 : FE := feOf Tryz.f111 an111
def an112 : Nat → List DI := fun _ => []
noncomputable def fe112 : FE := feOf Tryz.f112 an112
def an113 : Nat → List DI := annOf [(1, [.q 0 0, .q 1 0, .q 2 0, .q 3 0, .q 4 0, .q 5 0, .q 6 0, .q 7 0, .q 8 0, .c 9]), (19, [.q 0 0, .q 1 0, .q 2 0, .q 3 0, .q 4 0, .q 5 0, .q 6 0, .q 7 0, .c 8])]
noncomputable def fe113 : FE := feOf Tryz.f113 an113
def an114 : Nat → List DI := annOf [(5, [.q 6 0, .c 7, .q 5 1, .c 8, .c 9, .q 1 3, .q 2 3, .q 3 3, .q 4 3, .c 10, .q 0 4, .q 11 0, .q 12 0, .c 13]), (10, [.q 6 0, .q 7 0, .q 8 0, .q 9 0, .q 10 0, .q 11 0, .q 12 0, .q 13 0, .q 14 0, .q 15 0, .c 16, .q 5 1, .c 17, .c 18, .q 1 3, .q 2 3, .q 3 3, .q 4 3, .c 19, .q 0 4, .q 20 0, .q 21 0, .c 22]), (15, [.q 0 0, .q 1 0, .q 2 0, .q 3 0, .q 4 0, .q 5 0, .q 6 0, .q 7 0, .q 8 0, .q 9 0, .c 10, .q 11 0, .q 12 1]), (20, [.q 8 0, .q 9 0, .q 10 0, .q 11 0, .q 12 0, .q 13 0, .q 14 0, .q 15 0, .c 16, .q 7 1, .c 17, .q 5 2, .q 6 2, .q 18 0, .c 19, .q 1 3, .q 2 3, .q 3 3, .q 4 3, .c 20, .q 0 4, .q 21 0, .q 22 0, .c 23]), (22, [.q 0 0, .q 1 0, .q 2 0, .q 3 0, .q 4 0, .q 5 0, .q 6 0, .q 7 0, .q 8 0, .q 9 0, .c 10, .q 11 0, .q 12 1]), (25, [.q 8 0, .q 9 0, .q 10 0, .q 11 0, .q 12 0, .q 13 0, .q 14 0, .q 15 0, .c 16, .q 7 1, .c 17, .q 5 2, .q 6 2, .q 18 0, .c 19, .q 1 3, .q 2 3, .q 3 3, .q 4 3, .c 20, .q 0 4, .q 21 0, .q 22 0, .c 23])]
noncomputable def fe114 : FE := feOf Tryz.f114 an114
def an115 : Nat → List DI := fun _ => []
noncomputable def fe115 : FE := feOf Tryz.f115 an115
def an116 : Nat → List DI := fun _ => []
noncomputable def fe116 : FE := feOf Tryz.f116 an116
def an117 : Nat → List DI := fun _ => []
noncomputable def fe117 : FE := feOf Tryz.f117 an117
def an118 : Nat → List DI := annOf [(5, [.q 2 0, .c 3, .c 4, .q 0 2, .q 1 2, .c 5, .q 6 0, .c 7])]
noncomputable def fe118 : FE := feOf Tryz.f118 an118
def an119 : Nat → List DI := fun _ => []
noncomputable def fe119 : FE := feOf Tryz.f119 an119
def an120 : Nat → List DI := fun _ => []
noncomputable def fe120 : FE := feOf Tryz.f120 an120
def an121 : Nat → List DI := annOf [(16, [.q 0 0, .q 1 0, .q 2 0, .q 3 0, .q 4 0])]
noncomputable def fe121 : FE := feOf Tryz.f121 an121
def an122 : Nat → List DI := annOf [(12, [.q 0 0, .c 1, .q 2 0, .q 3 0, .q 4 0, .q 5 0, .q 6 0, .q 7 0, .q 8 0, .q 9 0, .q 10 0, .q 11 0, .q 12 0, .q 13 0, .c 14, .q 15 0, .q 16 0, .q 17 0]), (20, [.q 0 0, .q 1 0, .q 2 0, .q 3 0, .q 4 0, .q 5 0, .q 6 0, .q 7 0, .q 8 0, .q 9 0, .q 10 0, .q 11 0, .q 12 0, .q 13 0, .q 14 0, .q 15 0, .q 16 0, .q 17 0, .q 18 0, .q 19 0, .q 20 0, .q 21 0, .q 22 0, .q 23 0, .q 24 0, .q 25 0, .q 26 0, .q 27 0, .q 28 0, .q 29 0, .q 30 0, .q 31 0, .q 32 0, .q 33 0, .c 34, .q 35 0, .q 36 0, .q 37 0, .q 38 0])]
noncomputable def fe122 : FE := feOf Tryz.f122 an122
def an123 : Nat → List DI := annOf [(14, [.q 0 0, .q 1 0, .q 2 0, .q 3 0, .q 4 0, .q 5 0, .q 6 0, .q 7 0, .q 8 0, .q 9 0, .q 10 0, .q 11 0, .q 12 0, .q 13 0, .q 14 0, .q 15 0, .q 16 0, .q 17 0, .q 18 0, .q 19 0, .q 20 0, .q 21 0, .q 22 0, .q 23 0, .q 24 0, .q 25 0, .q 26 0, .q 27 0, .q 28 0, .q 29 0, .q 30 0, .q 31 0, .q 32 0, .q 33 0, .q 34 0, .q 35 0, .q 36 0, .q 37 0]), (22, [.q 0 0, .q 1 0, .q 2 0, .q 3 0, .q 4 0, .q 5 0, .q 6 0, .q 7 0, .q 8 0, .q 9 0, .q 10 0, .q 11 0, .q 12 0, .q 13 0, .q 14 0, .q 15 0, .q 16 0, .q 17 0, .q 18 0, .q 19 0, .q 20 0, .q 21 0, .q 22 0, .q 23 0, .q 24 0, .q 25 0, .q 26 0, .q 27 0, .q 28 0, .q 29 0, .q 30 0, .q 31 0, .q 32 0, .q 33 0, .c 34, .q 35 0, .q 36 0, .q 37 0, .q 38 0])]
noncomputable def fe123 : FE := feOf Tryz.f123 an123
def an124 : Nat → List DI := fun _ => []
noncomputable def fe124 : FE := feOf Tryz.f124 an124
def an125 : Nat → List DI := annOf [(1, [.q 5 0, .c 6, .q 1 1, .q 2 1, .q 3 1, .q 4 1, .c 7, .q 0 2, .q 8 0, .q 9 0, .c 10])]
noncomputable def fe125 : FE := feOf Tryz.f125 an125
def an126 : Nat → List DI := fun _ => []
noncomputable def fe126 : FE := feOf Tryz.f126 an126
def an127 : Nat → List DI := annOf [(1, [.q 4 0, .q 5 0, .c 6, .q 7 1, .q 8 1, .c 9, .q 10 2, .q 11 2, .c 12, .q 0 3, .q 1 3, .q 2 3, .q 3 3, .q 13 3, .q 14 3, .q 15 3, .q 16 3, .q 17 3, .q 18 3, .q 19 3, .q 20 3, .q 21 3, .q 22 3, .q 23 0, .z 24, .c 25]), (5, [.q 4 0, .q 5 0, .c 6, .q 2 1, .q 3 1, .q 7 0, .c 8, .q 0 2, .q 1 2, .c 9, .q 10 0, .c 11]), (8, [.q 0 0, .q 1 0, .q 2 0, .c 3, .q 4 1, .q 5 1, .q 6 1, .c 7, .q 8 1, .c 9, .q 10 0, .c 11]), (10, [.q 0 0, .q 1 0, .q 2 0, .c 3, .q 4 1, .q 5 1, .q 6 1, .c 7, .q 8 1, .c 9, .q 10 0, .c 11])]
noncomputable def fe127 : FE := feOf Tryz.f127 an127
def an128 : Nat → List DI := annOf [(2, [.q 0 0, .q 1 0, .c 2, .q 4 1, .q 5 1, .c 6, .q 3 1, .q 7 0, .c 8])]
noncomputable def fe128 : FE := feOf Tryz.f128 an128
def an129 : Nat → List DI := fun _ => []
noncomputable def fe129 : FE := feOf Tryz.f129 an129
def an130 : Nat → List DI := fun _ => []
noncomputable def fe130 : FE := feOf Tryz.f130 an130
def an131 : Nat → List DI := fun _ => []
noncomputable def fe131 : FE := feOf Tryz.f131 an131
def an132 : Nat → List DI := annOf [(3, [.q 0 0, .q 1 0, .q 2 0, .q 3 0, .q 4 0, .q 5 0, .q 6 0, .q 7 0, .q 8 0, .q 9 0, .q 10 0, .q 11 0, .q 12 0, .q 13 0, .q 14 0, .q 15 0, .q 16 0, .q 17 0, .c 18, .q 19 0]), (5, [.q 0 0, .q 1 0, .q 2 0, .q 3 0, .q 4 0, .q 5 0, .q 6 0, .q 7 0, .q 8 0, .q 9 0, .q 10 0, .q 11 0, .c 12, .q 13 0]), (6, [.q 0 0, .q 1 0, .q 2 0, .q 3 0, .q 8 0, .q 9 0, .q 10 0, .q 11 0, .q 12 0, .q 13 0, .q 14 0, .q 15 0, .q 16 0, .q 17 0, .q 18 0, .q 19 0, .q 20 0, .c 21, .q 4 1, .q 5 1, .q 6 1, .q 7 1, .q 22 0, .c 23])]
noncomputable def fe132 : FE := feOf Tryz.f132 an132
def an133 : Nat → List DI := fun _ => []
noncomputable def fe133 : FE := feOf Tryz.f133 an133
def an134 : Nat → List DI := annOf [(1, [.q 0 0, .q 1 0, .q 2 0, .q 3 0, .q 4 0, .q 5 0, .q 6 0, .q 7 0, .q 8 0, .c 9]), (2, [.q 0 0, .q 1 0, .q 2 0, .q 3 0, .q 4 0, .q 5 0, .q 6 0, .q 7 0, .q 8 0, .c 9]), (3, [.q 0 0, .q 1 0, .q 2 0, .q 3 0, .q 4 0, .q 5 0, .q 6 0, .q 7 0, .q 8 0, .c 9])]
noncomputable def fe134 : FE := feOf Tryz.f134 an134
def an135 : Nat → List DI := fun _ => []
noncomputable def fe135 : FE := feOf Tryz.f135 an135
def an136 : Nat → List DI := fun _ => []
noncomputable def fe136 : FE := feOf Tryz.f136 an136
def an137 : Nat → List DI := fun _ => []
noncomputable def fe137 : FE := feOf Tryz.f137 an137
def an138 : Nat → List DI := fun _ => []
noncomputable def fe138 : FE := feOf Tryz.f138 an138
def an139 : Nat → List DI := fun _ => []
noncomputable def fe139 : FE := feOf Tryz.f139 an139
def an140 : Nat → List DI := fun _ => []
noncomputable def fe140 : FE := feOf Tryz.f140 an140
def an141 : Nat → List DI := fun _ => []
noncomputable def fe141 : FE := feOf Tryz.f141 an141
def an142 : Nat → List DI := fun _ => []
noncomputable def fe142 : FE := feOf Tryz.f142 an142
def an143 : Nat → List DI := fun _ => []
noncomputable def fe143 : FE := feOf Tryz.f143 an143
def an144 : Nat → List DI := fun _ => []
noncomputable def fe144 : FE := feOf Tryz.f144 an144
def an145 : Nat → List DI := fun _ => []
noncomputable def fe145 : FE := feOf Tryz.f145 an145
def an146 : Nat → List DI := fun _ => []
noncomputable def fe146 : FE := feOf Tryz.f146 an146
def an147 : Nat → List DI := fun _ => []
noncomputable def fe147 : FE := feOf Tryz.f147 an147
def an148 : Nat → List DI := fun _ => []
noncomputable def fe148 : FE := feOf Tryz.f148 an148
def an149 : Nat → List DI := fun _ => []
noncomputable def fe149 : FE := feOf Tryz.f149 an149
def an150 : Nat → List DI := fun _ => []
noncomputable def fe150 : FE := feOf Tryz.f150 an150
def an151 : Nat → List DI := fun _ => []
noncomputable def fe151 : FE := feOf Tryz.f151 an151
def an152 : Nat → List DI := fun _ => []
noncomputable def fe152 : FE := feOf Tryz.f152 an152
def an153 : Nat → List DI := fun _ => []
noncomputable def fe153 : FE := feOf Tryz.f153 an153
def an154 : Nat → List DI := fun _ => []
noncomputable def fe154 : FE := feOf Tryz.f154 an154
def an155 : Nat → List DI := annOf [(0, [.q 1 0, .q 2 0, .q 3 0, .c 4, .q 0 1, .c 5])]
noncomputable def fe155 : FE := feOf Tryz.f155 an155
def an156 : Nat → List DI := annOf [(9, [.q 2 0, .q 3 0, .c 4, .c 5, .q 0 2, .q 1 2, .c 6, .q 7 0, .c 8])]
noncomputable def fe156 : FE := feOf Tryz.f156 an156
def an157 : Nat → List DI := fun _ => []
noncomputable def fe157 : FE := feOf Tryz.f157 an157
def an158 : Nat → List DI := annOf [(5, [.q 2 0, .c 3, .c 4, .q 0 2, .q 1 2, .c 5, .q 6 0, .c 7])]
noncomputable def fe158 : FE := feOf Tryz.f158 an158
def an159 : Nat → List DI := fun _ => []
noncomputable def fe159 : FE := feOf Tryz.f159 an159
def an160 : Nat → List DI := annOf [(14, [.q 0 0, .q 1 0, .c 2, .q 3 1, .q 4 1, .c 5, .q 6 1, .c 7, .q 8 0, .c 9]), (15, [.q 1 0, .q 2 0, .q 3 0, .q 4 0, .c 5, .q 6 0, .q 7 0, .q 10 0, .q 11 0, .c 12, .q 8 1, .q 9 1, .c 13, .q 0 3, .c 16, .q 14 1, .q 15 1, .q 17 0])]
noncomputable def fe160 : FE := feOf Tryz.f160 an160
def an161 : Nat → List DI := annOf [(5, [.q 0 0, .q 1 0, .q 2 0, .q 3 0, .q 4 0, .q 5 0, .c 6, .q 7 0]), (8, [.q 1 0, .q 2 0, .q 3 0, .q 4 0, .q 5 0, .q 6 0, .q 7 0, .q 8 0, .q 9 0, .q 10 0, .c 11, .q 0 1, .q 12 0, .q 13 0, .q 14 0, .q 15 0])]
noncomputable def fe161 : FE := feOf Tryz.f161 an161
def an162 : Nat → List DI := annOf [(1, [.q 0 0, .q 1 0, .q 2 0, .q 3 0, .c 4, .q 5 1, .q 6 1, .q 7 1, .q 8 1, .c 9, .q 10 2, .q 11 2, .q 12 2, .q 13 2, .c 14, .c 15, .c 16, .q 17 0])]
noncomputable def fe162 : FE := feOf Tryz.f162 an162
def an163 : Nat → List DI := annOf [(11, [.q 0 0, .q 1 0, .q 2 0, .q 3 0, .q 4 0, .q 5 0, .q 6 0, .q 7 0, .c 8]), (15, [.q 0 0, .q 1 0, .q 2 0, .q 3 0, .q 4 0, .q 5 0, .q 6 0, .q 7 0, .c 8])]
noncomputable def fe163 : FE := feOf Tryz.f163 an163
def an164 : Nat → List DI := annOf [(8, [.q 0 0, .q 1 0, .q 2 0, .q 3 0, .q 4 0, .q 5 0, .q 6 0, .q 7 0, .q 8 0, .q 9 0, .c 10, .q 11 0, .q 12 0])]
noncomputable def fe164 : FE := feOf Tryz.f164 an164
def an165 : Nat → List DI := annOf [(6, [.q 0 0, .q 1 0, .q 2 0, .q 3 0, .q 4 0, .q 5 0, .q 6 0, .c 7, .q 8 0, .q 9 0, .q 10 0, .q 11 0, .q 12 0, .q 13 0, .q 14 0, .c 15, .q 16 0, .q 17 0])]
noncomputable def fe165 : FE := feOf Tryz.f165 an165
def an166 : Nat → List DI := fun _ => []
noncomputable def fe166 : FE := feOf Tryz.f166 an166
def an167 : Nat → List DI := annOf [(7, [.q 0 0, .q 1 0, .q 2 0, .q 3 0, .q 4 0, .q 5 0, .c 6, .q 7 1, .q 8 1, .q 9 1, .q 10 1, .q 11 1, .q 12 1, .c 13, .q 14 0, .q 15 2])]
noncomputable def fe167 : FE := feOf Tryz.f167 an167
def an168 : Nat → List DI := annOf [(5, [.q 2 0, .c 3, .c 4, .q 0 2, .q 1 2, .c 5, .q 6 0, .c 7])]
noncomputable def fe168 : FE := feOf Tryz.f168 an168
def an169 : Nat → List DI := fun _ => []
noncomputable def fe169 : FE := feOf Tryz.f169 an169
def an170 : Nat → List DI := annOf [(5, [.q 3 0, .q 4 0, .q 5 0, .q 6 0, .q 7 0, .q 8 0, .q 9 0, .c 10, .q 11 1, .q 12 1, .c 13, .q 0 2, .q 1 2, .q 2 2, .q 14 0, .c 15])]
noncomputable def fe170 : FE := feOf Tryz.f170 an170
def an171 : Nat → List DI := fun _ => []
noncomputable def fe171 : FE := feOf Tryz.f171 an171
def an172 : Nat → List DI := fun _ => []
noncomputable def fe172 : FE := feOf Tryz.f172 an172
def an173 : Nat → List DI := fun _ => []
noncomputable def fe173 : FE := feOf Tryz.f173 an173
def an174 : Nat → List DI := fun _ => []
noncomputable def fe174 : FE := feOf Tryz.f174 an174
def an175 : Nat → List DI := fun _ => []
noncomputable def fe175 : FE := feOf Tryz.f175 an175
def an176 : Nat → List DI := fun _ => []
noncomputable def fe176 : FE := feOf Tryz.f176 an176
def an177 : Nat → List DI := fun _ => []
noncomputable def fe177 : FE := feOf Tryz.f177 an177
def an178 : Nat → List DI := fun _ => []
noncomputable def fe178 : FE := feOf Tryz.f178 an178
def an179 : Nat → List DI := fun _ => []
noncomputable def fe179 : FE := feOf Tryz.f179 an179
def an180 : Nat → List DI := annOf [(1, [.q 0 0, .q 1 0, .c 2, .q 3 1, .q 4 1, .c 5, .q 6 0])]
noncomputable def fe180 : FE := feOf Tryz.f180 an180
def an181 : Nat → List DI := fun _ => []
noncomputable def fe181 : FE := feOf Tryz.f181 an181
def an182 : Nat → List DI := annOf [(6, [.q 0 0, .q 1 0, .q 2 0, .q 3 0, .q 4 0, .q 5 0, .q 6 0, .q 7 0, .q 8 0, .q 9 0]), (11, [.q 0 0, .q 1 0, .q 2 0, .q 3 0, .q 4 0, .q 5 0, .q 6 0, .q 7 0, .q 8 0, .q 9 0])]
noncomputable def fe182 : FE := feOf Tryz.f182 an182
def an183 : Nat → List DI := fun _ => []
noncomputable def fe183 : FE := feOf Tryz.f183 an183
def an184 : Nat → List DI := annOf [(5, [.q 2 0, .c 3, .c 4, .q 0 2, .q 1 2, .c 5, .q 6 0, .c 7])]
noncomputable def fe184 : FE := feOf Tryz.f184 an184
def an185 : Nat → List DI := fun _ => []
noncomputable def fe185 : FE := feOf Tryz.f185 an185
def an186 : Nat → List DI := annOf [(5, [.q 5 0, .q 6 0, .c 7, .q 1 1, .q 2 1, .q 3 1, .q 4 1, .q 8 1, .q 9 1, .q 10 1, .q 11 1, .q 12 1, .q 13 1, .q 14 1, .q 15 1, .q 16 0, .c 17, .q 0 2, .c 18, .q 19 0])]
noncomputable def fe186 : FE := feOf Tryz.f186 an186
def an187 : Nat → List DI := fun _ => []
noncomputable def fe187 : FE := feOf Tryz.f187 an187
def an188 : Nat → List DI := fun _ => []
noncomputable def fe188 : FE := feOf Tryz.f188 an188
def an189 : Nat → List DI := annOf [(1, [.q 0 0, .q 1 0, .q 2 0, .q 3 0, .c 4, .q 5 1, .q 6 1, .q 7 1, .q 8 1, .q 9 1, .c 10, .q 11 0])]
noncomputable def fe189 : FE := feOf Tryz.f189 an189
def an190 : Nat → List DI := fun _ => []
noncomputable def fe190 : FE := feOf Tryz.f190 an190
def an191 : Nat → List DI := annOf [(1, [.q 0 0, .q 1 0, .q 2 0, .q 3 0, .q 4 0, .q 5 0, .q 6 0, .q 7 0, .c 8])]
noncomputable def fe191 : FE := feOf Tryz.f191 an191
def an192 : Nat → List DI := fun _ => []
noncomputable def fe192 : FE := feOf Tryz.f192 an192
def an193 : Nat → List DI := fun _ => []
noncomputable def fe193 : FE := feOf Tryz.f193 an193
def an194 : Nat → List DI := fun _ => []
noncomputable def fe194 : FE := feOf Tryz.f194 an194
def an195 : Nat → List DI := fun _ => []
noncomputable def fe195 : FE := feOf Tryz.f195 an195
def an196 : Nat → List DI := fun _ => []
noncomputable def fe196 : FE := feOf Tryz.f196 an196
def an197 : Nat → List DI := fun _ => []
noncomputable def fe197 : FE := feOf Tryz.f197 an197
def an198 : Nat → List DI := annOf [(1, [.q 0 0, .q 1 0, .q 2 0, .q 3 0, .c 4, .q 5 1, .q 6 1, .q 7 1, .q 8 1, .c 9, .c 10, .c 11, .q 12 0])]
noncomputable def fe198 : FE := feOf Tryz.f198 an198
def an199 : Nat → List DI := fun _ => []
noncomputable def fe199 : FE := feOf Tryz.f199 an199
def an200 : Nat → List DI := fun _ => []
noncomputable def fe200 : FE := feOf Tryz.f200 an200
def an201 : Nat → List DI := fun _ => []
noncomputable def fe201 : FE := feOf Tryz.f201 an201
def an202 : Nat → List DI := annOf [(5, [.q 7 0, .q 8 0, .c 9, .q 3 1, .q 4 1, .q 5 1, .q 6 1, .c 10, .q 0 2, .q 1 2, .q 2 2, .c 11])]
noncomputable def fe202 : FE := feOf Tryz.f202 an202
def an203 : Nat → List DI := annOf [(11, [.q 0 0, .q 1 0, .q 2 0, .q 3 0, .q 4 0, .q 5 0, .q 6 0, .q 7 0, .c 8]), (15, [.q 0 0, .q 1 0, .q 2 0, .q 3 0, .q 4 0, .q 5 0, .q 6 0, .q 7 0, .c 8])]
noncomputable def fe203 : FE := feOf Tryz.f203 an203
def an204 : Nat → List DI := fun _ => []
noncomputable def fe204 : FE := feOf Tryz.f204 an204
def an205 : Nat → List DI := annOf [(2, [.q 0 0, .q 1 0, .q 2 0, .q 3 0, .q 4 0, .q 5 0, .q 6 0, .q 7 0, .c 8, .q 9 0, .q 10 1, .q 11 1, .q 12 0, .q 13 0])]
noncomputable def fe205 : FE := feOf Tryz.f205 an205
def an206 : Nat → List DI := annOf [(5, [.q 6 0, .q 7 0, .q 8 0, .q 9 0, .c 10, .q 0 1, .q 1 1, .q 2 1, .q 3 1, .q 4 1, .q 5 1, .c 11, .q 12 0, .q 13 0]), (12, [.q 0 0, .q 1 0, .q 2 0, .q 3 0, .q 4 0, .q 5 0, .q 6 0, .q 7 0, .q 8 0, .q 9 0, .q 10 0, .c 11, .q 12 0, .q 13 0, .q 14 0, .q 15 0, .q 16 0])]
noncomputable def fe206 : FE := feOf Tryz.f206 an206
def an207 : Nat → List DI := fun _ => []
noncomputable def fe207 : FE := feOf Tryz.f207 an207
def an208 : Nat → List DI := fun _ => []
noncomputable def fe208 : FE := feOf Tryz.f208 an208
def an209 : Nat → List DI := fun _ => []
noncomputable def fe209 : FE := feOf Tryz.f209 an209
def an210 : Nat → List DI := fun _ => []
noncomputable def fe210 : FE := feOf Tryz.f210 an210
def an211 : Nat → List DI := fun _ => []
noncomputable def fe211 : FE := feOf Tryz.f211 an211
def an212 : Nat → List DI := fun _ => []
noncomputable def fe212 : FE := feOf Tryz.f212 an212
def an214 : Nat → List DI := fun _ => []
noncomputable def fe214 : FE := feOf Tryz.f214 an214
def an215 : Nat → List DI := annOf [(6, [.q 0 0, .q 1 0, .q 2 0, .q 3 0, .q 4 0, .q 5 0, .c 6, .q 7 0, .q 8 0, .q 9 0, .q 10 0, .c 11, .q 12 0, .q 13 0, .q 14 0, .q 15 0, .q 16 0, .q 17 0, .q 18 0, .q 19 0, .q 20 0, .q 21 0, .q 22 0, .q 23 0, .c 24, .q 25 0, .q 26 0, .q 27 0])]
noncomputable def fe215 : FE := feOf Tryz.f215 an215
def an216 : Nat → List DI := fun _ => []
noncomputable def fe216 : FE := feOf Tryz.f216 an216
def an217 : Nat → List DI := annOf [(4, [.q 0 0, .q 1 0, .q 2 0, .q 3 0, .q 4 0, .q 5 0, .q 6 0, .q 7 0, .q 8 0, .q 9 0, .q 10 0, .q 11 0, .q 12 0, .q 13 0])]
noncomputable def fe217 : FE := feOf Tryz.f217 an217
def an218 : Nat → List DI := fun _ => []
noncomputable def fe218 : FE := feOf Tryz.f218 an218
def an219 : Nat → List DI := fun _ => []
noncomputable def fe219 : FE := feOf Tryz.f219 an219
def an220 : Nat → List DI := fun _ => []
noncomputable def fe220 : FE := feOf Tryz.f220 an220
def an221 : Nat → List DI := fun _ => []
noncomputable def fe221 : FE := feOf Tryz.f221 an221
def an222 : Nat → List DI := fun _ => []
noncomputable def fe222 : FE := feOf Tryz.f222 an222
def an223 : Nat → List DI := fun _ => []
noncomputable def fe223 : FE := feOf Tryz.f223 an223
def an224 : Nat → List DI := fun _ => []
noncomputable def fe224 : FE := feOf Tryz.f224 an224
def an225 : Nat → List DI := fun _ => []
noncomputable def fe225 : FE := feOf Tryz.f225 an225
def an226 : Nat → List DI := fun _ => []
noncomputable def fe226 : FE := feOf Tryz.f226 an226
def an227 : Nat → List DI := fun _ => []
noncomputable def fe227 : FE := feOf Tryz.f227 an227
def an228 : Nat → List DI := fun _ => []
noncomputable def fe228 : FE := feOf Tryz.f228 an228
def an229 : Nat → List DI := fun _ => []
noncomputable def fe229 : FE := feOf Tryz.f229 an229
def an230 : Nat → List DI := fun _ => []
noncomputable def fe230 : FE := feOf Tryz.f230 an230
def an231 : Nat → List DI := fun _ => []
noncomputable def fe231 : FE := feOf Tryz.f231 an231
def an232 : Nat → List DI := fun _ => []
noncomputable def fe232 : FE := feOf Tryz.f232 an232
def an233 : Nat → List DI := fun _ => []
noncomputable def fe233 : FE := feOf Tryz.f233 an233
def an234 : Nat → List DI := fun _ => []
noncomputable def fe234 : FE := feOf Tryz.f234 an234
def an235 : Nat → List DI := fun _ => []
noncomputable def fe235 : FE := feOf Tryz.f235 an235
def an236 : Nat → List DI := fun _ => []
noncomputable def fe236 : FE := feOf Tryz.f236 an236
def an238 : Nat → List DI := fun _ => []
noncomputable def fe238 : FE := feOf Tryz.f238 an238
def an239 : Nat → List DI := fun _ => []
noncomputable def fe239 : FE := feOf Tryz.f239 an239
def an240 : Nat → List DI := fun _ => []
noncomputable def fe240 : FE := feOf Tryz.f240 an240
def an241 : Nat → List DI := fun _ => []
noncomputable def fe241 : FE := feOf Tryz.f241 an241
def an242 : Nat → List DI := fun _ => []
noncomputable def fe242 : FE := feOf Tryz.f242 an242
def an243 : Nat → List DI := fun _ => []
noncomputable def fe243 : FE := feOf Tryz.f243 an243
def an244 : Nat → List DI := annOf [(0, [.c 14, .q 0 1, .q 1 1, .q 2 1, .q 3 1, .q 4 1, .q 5 1, .q 6 1, .q 7 1, .q 8 1, .q 9 1, .q 10 1, .q 11 1, .q 12 1, .q 13 1, .c 15]), (3, [.q 1 0, .q 2 0, .c 3, .q 5 1, .q 6 1, .c 7, .q 4 2, .q 8 0, .c 9, .q 10 0, .c 11, .q 0 4, .c 12, .c 13])]
noncomputable def fe244 : FE := feOf Tryz.f244 an244
def an245 : Nat → List DI := fun _ => []
noncomputable def fe245 : FE := feOf Tryz.f245 an245
def an246 : Nat → List DI := fun _ => []
noncomputable def fe246 : FE := feOf Tryz.f246 an246
def an247 : Nat → List DI := fun _ => []
noncomputable def fe247 : FE := feOf Tryz.f247 an247
def an248 : Nat → List DI := annOf [(22, [.q 14 0, .c 15, .q 6 1, .q 7 1, .q 8 1, .q 9 1, .q 10 1, .q 11 1, .q 12 1, .q 13 1, .c 16, .q 0 2, .q 1 2, .q 2 2, .q 3 2, .q 4 2, .q 5 2, .q 17 0, .c 18])]
noncomputable def fe248 : FE := feOf Tryz.f248 an248
def an249 : Nat → List DI := fun _ => []
noncomputable def fe249 : FE := feOf Tryz.f249 an249
def an251 : Nat → List DI := fun _ => []
noncomputable def fe251 : FE := feOf Tryz.f251 an251
def an252 : Nat → List DI := fun _ => []
noncomputable def fe252 : FE := feOf Tryz.f252 an252
def an253 : Nat → List DI := annOf [(17, [.q 0 0, .q 1 0, .q 2 0, .q 3 0, .q 4 0, .q 5 0, .q 6 0, .q 7 0, .q 8 0, .q 9 0, .q 10 0, .q 11 0, .q 12 0, .c 13, .q 14 0, .q 15 0, .q 16 0])]
noncomputable def fe253 : FE := feOf Tryz.f253 an253
def an254 : Nat → List DI := fun _ => []
noncomputable def fe254 : FE := feOf Tryz.f254 an254
def an255 : Nat → List DI := fun _ => []
noncomputable def fe255 : FE := feOf Tryz.f255 an255
def an256 : Nat → List DI := fun _ => []
noncomputable def fe256 : FE := feOf Tryz.f256 an256
def an257 : Nat → List DI := fun _ => []
noncomputable def fe257 : FE := feOf Tryz.f257 an257
def an258 : Nat → List DI := fun _ => []
noncomputable def fe258 : FE := feOf Tryz.f258 an258
def an259 : Nat → List DI := fun _ => []
noncomputable def fe259 : FE := feOf Tryz.f259 an259
def an260 : Nat → List DI := annOf [(3, [.q 0 0, .q 1 0, .q 4 0, .q 5 0, .q 6 0, .q 7 0, .q 8 0, .q 9 0, .q 10 0, .q 11 0, .q 12 0, .c 13, .q 2 1, .q 3 1, .q 14 0, .c 15])]
noncomputable def fe260 : FE := feOf Tryz.f260 an260
def an261 : Nat → List DI := fun _ => []
noncomputable def fe261 : FE := feOf Tryz.f261 an261
def an262 : Nat → List DI := fun _ => []
noncomputable def fe262 : FE := feOf Tryz.f262 an262
def an263 : Nat → List DI := fun _ => []
noncomputable def fe263 : FE := feOf Tryz.f263 an263
def an264 : Nat → List DI := fun _ => []
noncomputable def fe264 : FE := feOf Tryz.f264 an264
def an265 : Nat → List DI := fun _ => []
noncomputable def fe265 : FE := feOf Tryz.f265 an265
def an266 : Nat → List DI := annOf [(7, [.q 0 0, .q 1 0, .q 2 0, .q 6 0, .q 7 0, .q 8 0, .q 11 0, .c 12, .q 3 1, .q 4 1, .q 5 1, .q 9 1, .q 10 1, .q 13 0, .c 14]), (8, [.q 0 0, .q 1 0, .q 2 0, .q 6 0, .q 7 0, .q 8 0, .q 11 0, .c 12, .q 3 1, .q 4 1, .q 5 1, .q 9 1, .q 10 1, .q 13 0, .c 14]), (9, [.q 0 0, .q 1 0, .q 2 0, .q 6 0, .q 7 0, .q 8 0, .q 11 0, .c 12, .q 3 1, .q 4 1, .q 5 1, .q 9 1, .q 10 1, .q 13 0, .c 14]), (10, [.q 0 0, .q 1 0, .q 2 0, .q 6 0, .q 7 0, .q 8 0, .q 11 0, .c 12, .q 3 1, .q 4 1, .q 5 1, .q 9 1, .q 10 1, .q 13 0, .c 14]), (17, [.q 0 0, .q 1 0, .q 2 0, .q 6 0, .q 7 0, .q 8 0, .q 11 0, .c 12, .q 3 1, .q 4 1, .q 5 1, .q 9 1, .q 10 1, .q 13 0, .c 14]), (18, [.q 0 0, .q 1 0, .q 2 0, .q 6 0, .q 7 0, .q 8 0, .q 11 0, .c 12, .q 3 1, .q 4 1, .q 5 1, .q 9 1, .q 10 1, .q 13 0, .c 14]), (23, [.q 0 0, .q 1 0, .q 2 0, .q 6 0, .q 7 0, .q 8 0, .q 11 0, .c 12, .q 3 1, .q 4 1, .q 5 1, .q 9 1, .q 10 1, .q 13 0, .c 14])]
noncomputable def fe266 : FE := feOf Tryz.f266 an266
def an267 : Nat → List DI := fun _ => []
noncomputable def fe267 : FE := feOf Tryz.f267 an267
def an268 : Nat → List DI := annOf [(4, [.q 0 0, .q 1 0, .q 2 0, .q 3 0, .q 4 0, .q 5 0, .q 6 0, .q 7 0, .q 8 0, .q 9 0, .q 10 0, .q 11 0, .q 12 0, .q 13 0, .c 14, .q 15 0, .q 16 0]), (6, [.q 0 0, .q 1 0, .q 5 0, .q 6 0, .q 7 0, .q 8 0, .q 9 0, .q 10 0, .q 11 0, .q 12 0, .q 13 0, .q 14 0, .c 15, .q 2 1, .q 3 1, .q 4 1, .q 16 0, .c 17])]
noncomputable def fe268 : FE := feOf Tryz.f268 an268
def an269 : Nat → List DI := annOf [(10, [.q 0 0, .q 1 0, .q 6 0, .q 7 0, .q 8 0, .q 9 0, .q 10 0, .q 11 0, .q 12 0, .q 13 0, .q 14 0, .q 15 0, .q 16 0, .c 17, .q 2 1, .q 3 1, .q 4 1, .q 5 1, .q 18 0, .c 19])]
noncomputable def fe269 : FE := feOf Tryz.f269 an269
def an270 : Nat → List DI := annOf [(10, [.q 0 0, .q 1 0, .q 6 0, .q 7 0, .q 8 0, .q 9 0, .q 10 0, .q 11 0, .q 12 0, .q 13 0, .q 14 0, .q 15 0, .q 16 0, .c 17, .q 2 1, .q 3 1, .q 4 1, .q 5 1, .q 18 0, .c 19])]
noncomputable def fe270 : FE := feOf Tryz.f270 an270
def an271 : Nat → List DI := fun _ => []
noncomputable def fe271 : FE := feOf Tryz.f271 an271
def an272 : Nat → List DI := annOf [(3, [.q 0 0, .q 1 0, .q 4 0, .q 5 0, .q 6 0, .q 7 0, .q 8 0, .q 9 0, .q 10 0, .q 11 0, .q 12 0, .c 13, .q 2 1, .q 3 1, .q 14 0, .c 15])]
noncomputable def fe272 : FE := feOf Tryz.f272 an272
def an273 : Nat → List DI := annOf [(5, [.q 0 0, .q 1 0, .q 2 0, .q 3 0, .q 4 0, .q 5 0, .q 6 0, .q 7 0, .q 8 0, .q 9 0, .q 10 0, .q 11 0, .q 12 0, .q 13 0, .c 14, .q 15 0, .q 16 0, .q 17 0]), (11, [.q 0 0, .q 1 0, .q 5 0, .q 6 0, .q 7 0, .q 8 0, .q 9 0, .q 10 0, .q 11 0, .q 12 0, .q 13 0, .q 14 0, .c 15, .q 2 1, .q 3 1, .q 4 1, .q 16 0, .c 17]), (16, [.q 0 0, .q 1 0, .q 2 0, .q 3 0, .q 4 0, .q 5 0, .q 6 0, .q 7 0, .q 8 0, .q 9 0, .c 10, .q 11 0, .q 12 0]), (17, [.q 0 0, .q 1 0, .q 5 0, .q 6 0, .q 7 0, .q 8 0, .q 9 0, .q 10 0, .q 11 0, .q 12 0, .q 13 0, .q 14 0, .c 15, .q 2 1, .q 3 1, .q 4 1, .q 16 0, .c 17]), (22, [.q 0 0, .q 1 0, .q 2 0, .q 3 0, .q 4 0, .q 5 0, .q 6 0, .q 7 0, .q 8 0, .q 9 0, .c 10, .q 11 0, .q 12 0]), (23, [.q 0 0, .q 1 0, .q 5 0, .q 6 0, .q 7 0, .q 8 0, .q 9 0, .q 10 0, .q 11 0, .q 12 0, .q 13 0, .q 14 0, .c 15, .q 2 1, .q 3 1, .q 4 1, .q 16 0, .c 17])]
noncomputable def fe273 : FE := feOf Tryz.f273 an273
def an274 : Nat → List DI := annOf [(1, [.q 0 0, .q 1 0, .q 4 0, .q 5 0, .q 6 0, .q 7 0, .q 8 0, .q 9 0, .q 10 0, .q 11 0, .q 12 0, .c 13, .q 2 1, .q 3 1, .q 14 0, .c 15]), (3, [.q 0 0, .q 1 0, .q 2 0, .q 3 0, .q 4 0, .q 5 0, .q 6 0, .q 7 0, .q 8 0, .q 9 0, .q 10 0, .q 11 0, .q 12 0, .c 13, .q 14 0, .q 15 0, .q 16 0]), (5, [.q 0 0, .q 1 0, .q 2 0, .q 3 0, .q 4 0, .q 5 0, .q 6 0, .q 7 0, .q 8 0, .q 9 0, .q 10 0, .q 11 0, .q 12 0, .c 13, .q 14 0, .q 15 0]), (8, [.q 0 0, .q 1 0, .q 4 0, .q 5 0, .q 6 0, .q 7 0, .q 8 0, .q 9 0, .q 10 0, .q 11 0, .q 12 0, .c 13, .q 2 1, .q 3 1, .q 14 0, .c 15])]
noncomputable def fe274 : FE := feOf Tryz.f274 an274
def an275 : Nat → List DI := annOf [(1, [.q 0 0, .q 1 0, .q 4 0, .q 5 0, .q 6 0, .q 7 0, .q 8 0, .q 9 0, .q 10 0, .q 11 0, .q 12 0, .c 13, .q 2 1, .q 3 1, .q 14 0, .c 15]), (3, [.q 0 0, .q 1 0, .q 2 0, .q 3 0, .q 4 0, .q 5 0, .q 6 0, .q 7 0, .q 8 0, .q 9 0, .q 10 0, .q 11 0, .q 12 0, .c 13, .q 14 0, .q 15 0]), (5, [.q 0 0, .q 1 0, .q 2 0, .q 3 0, .q 4 0, .q 5 0, .q 6 0, .q 7 0, .q 8 0, .q 9 0, .q 10 0, .q 11 0, .q 12 0, .c 13, .q 14 0, .q 15 0, .q 16 0]), (8, [.q 0 0, .q 1 0, .q 4 0, .q 5 0, .q 6 0, .q 7 0, .q 8 0, .q 9 0, .q 10 0, .q 11 0, .q 12 0, .c 13, .q 2 1, .q 3 1, .q 14 0, .c 15]), (10, [.q 0 0, .q 1 0, .q 4 0, .q 5 0, .q 6 0, .q 7 0, .q 8 0, .q 9 0, .q 10 0, .q 11 0, .q 12 0, .c 13, .q 2 1, .q 3 1, .q 14 0, .c 15]), (13, [.q 0 0, .q 1 0, .q 2 0, .q 3 0, .q 4 0, .q 5 0, .q 6 0, .q 7 0, .q 8 0, .q 9 0, .q 10 0, .q 11 0, .q 12 0, .c 13, .q 14 0, .q 15 0]), (15, [.q 0 0, .q 1 0, .q 2 0, .q 3 0, .q 4 0, .q 5 0, .q 6 0, .q 7 0, .q 8 0, .q 9 0, .q 10 0, .q 11 0, .q 12 0, .c 13, .q 14 0, .q 15 0, .q 16 0]), (18, [.q 0 0, .q 1 0, .q 4 0, .q 5 0, .q 6 0, .q 7 0, .q 8 0, .q 9 0, .q 10 0, .q 11 0, .q 12 0, .c 13, .q 2 1, .q 3 1, .q 14 0, .c 15]), (21, [.q 0 0, .q 1 0, .q 4 0, .q 5 0, .q 6 0, .q 7 0, .q 8 0, .q 9 0, .q 10 0, .q 11 0, .q 12 0, .c 13, .q 2 1, .q 3 1, .q 14 0, .c 15])]
noncomputable def fe275 : FE := feOf Tryz.f275 an275
def an276 : Nat → List DI := fun _ => []
noncomputable def fe276 : FE := feOf Tryz.f276 an276
def an277 : Nat → List DI := annOf [(17, [.q 0 0, .q 1 0, .q 2 0, .q 3 0, .q 4 0, .q 5 0, .q 6 0, .q 7 0, .q 8 0, .q 9 0, .q 10 0, .q 11 0, .c 12, .q 13 0, .q 14 0])]
noncomputable def fe277 : FE := feOf Tryz.f277 an277
def an278 : Nat → List DI := annOf [(3, [.q 0 0, .q 1 0, .q 4 0, .q 5 0, .q 6 0, .q 7 0, .q 8 0, .q 9 0, .q 10 0, .q 11 0, .q 12 0, .c 13, .q 2 1, .q 3 1, .q 14 0, .c 15])]
noncomputable def fe278 : FE := feOf Tryz.f278 an278
def an279 : Nat → List DI := annOf [(1, [.q 0 0, .q 1 0, .q 2 0, .q 3 0, .q 4 0, .q 5 0, .q 6 0, .q 7 0, .q 8 0, .q 9 0, .q 10 0, .q 11 0, .q 12 0, .q 13 0, .q 14 0, .q 15 0, .q 16 0, .q 17 0, .q 18 0, .q 19 0, .q 20 0, .q 21 0])]
noncomputable def fe279 : FE := feOf Tryz.f279 an279
def an280 : Nat → List DI := fun _ => []
noncomputable def fe280 : FE := feOf Tryz.f280 an280
def an281 : Nat → List DI := fun _ => []
noncomputable def fe281 : FE := feOf Tryz.f281 an281
def an282 : Nat → List DI := fun _ => []
noncomputable def fe282 : FE := feOf Tryz.f282 an282
def an283 : Nat → List DI := fun _ => []
noncomputable def fe283 : FE := feOf Tryz.f283 an283
def an284 : Nat → List DI := fun _ => []
noncomputable def fe284 : FE := feOf Tryz.f284 an284
def an285 : Nat → List DI := fun _ => []
noncomputable def fe285 : FE := feOf Tryz.f285 an285
def an286 : Nat → List DI := fun _ => []
noncomputable def fe286 : FE := feOf Tryz.f286 an286
def an287 : Nat → List DI := annOf [(3, [.q 0 0, .q 1 0, .q 2 0, .q 3 0, .q 4 0, .q 5 0, .q 6 0, .q 7 0, .q 8 0, .q 9 0, .q 10 0, .q 11 0, .q 12 0, .q 13 0, .q 14 0, .q 15 0, .q 16 0, .q 17 0, .q 18 0, .c 19, .q 20 0, .q 21 0]), (5, [.q 0 0, .q 1 0, .q 2 0, .q 3 0, .q 4 0, .q 5 0, .q 6 0, .q 7 0, .q 8 0, .q 9 0, .q 10 0, .q 11 0, .q 12 0, .c 13, .q 14 0, .q 15 0]), (6, [.q 0 0, .q 1 0, .q 2 0, .q 3 0, .q 8 0, .q 9 0, .q 10 0, .q 11 0, .q 12 0, .q 13 0, .q 14 0, .q 15 0, .q 16 0, .q 17 0, .q 18 0, .q 19 0, .q 20 0, .c 21, .q 4 1, .q 5 1, .q 6 1, .q 7 1, .q 22 0, .c 23])]
noncomputable def fe287 : FE := feOf Tryz.f287 an287
def an288 : Nat → List DI := fun _ => []
noncomputable def fe288 : FE := feOf Tryz.f288 an288
def an289 : Nat → List DI := fun _ => []
noncomputable def fe289 : FE := feOf Tryz.f289 an289
def an290 : Nat → List DI := annOf [(4, [.q 0 0, .q 1 0, .q 2 0, .q 3 0, .q 4 0, .q 5 0, .q 6 0, .q 7 0, .q 8 0, .q 9 0, .q 10 0, .q 11 0, .q 12 0, .c 13, .q 14 0]), (6, [.q 0 0, .q 1 0, .q 5 0, .q 6 0, .q 7 0, .q 8 0, .q 9 0, .q 10 0, .q 11 0, .q 12 0, .q 13 0, .q 14 0, .c 15, .q 2 1, .q 3 1, .q 4 1, .q 16 0, .c 17])]
noncomputable def fe290 : FE := feOf Tryz.f290 an290
def an291 : Nat → List DI := annOf [(10, [.q 0 0, .q 1 0, .q 6 0, .q 7 0, .q 8 0, .q 9 0, .q 10 0, .q 11 0, .q 12 0, .q 13 0, .q 14 0, .q 15 0, .q 16 0, .c 17, .q 2 1, .q 3 1, .q 4 1, .q 5 1, .q 18 0, .c 19])]
noncomputable def fe291 : FE := feOf Tryz.f291 an291
def an292 : Nat → List DI := annOf [(10, [.q 0 0, .q 1 0, .q 6 0, .q 7 0, .q 8 0, .q 9 0, .q 10 0, .q 11 0, .q 12 0, .q 13 0, .q 14 0, .q 15 0, .q 16 0, .c 17, .q 2 1, .q 3 1, .q 4 1, .q 5 1, .q 18 0, .c 19])]
noncomputable def fe292 : FE := feOf Tryz.f292 an292
def an293 : Nat → List DI := fun _ => []
noncomputable def fe293 : FE := feOf Tryz.f293 an293
def an294 : Nat → List DI := annOf [(3, [.q 0 0, .q 1 0, .q 4 0, .q 5 0, .q 6 0, .q 7 0, .q 8 0, .q 9 0, .q 10 0, .q 11 0, .q 12 0, .c 13, .q 2 1, .q 3 1, .q 14 0, .c 15])]
noncomputable def fe294 : FE := feOf Tryz.f294 an294
def an295 : Nat → List DI := annOf [(5, [.q 0 0, .q 1 0, .q 2 0, .q 3 0, .q 4 0, .q 5 0, .q 6 0, .q 7 0, .q 8 0, .q 9 0, .q 10 0, .q 11 0, .q 12 0, .c 13, .q 14 0, .q 15 0]), (11, [.q 0 0, .q 1 0, .q 5 0, .q 6 0, .q 7 0, .q 8 0, .q 9 0, .q 10 0, .q 11 0, .q 12 0, .q 13 0, .q 14 0, .c 15, .q 2 1, .q 3 1, .q 4 1, .q 16 0, .c 17]), (16, [.q 0 0, .q 1 0, .q 2 0, .q 3 0, .q 4 0, .q 5 0, .q 6 0, .q 7 0, .q 8 0, .c 9, .q 10 0]), (17, [.q 0 0, .q 1 0, .q 5 0, .q 6 0, .q 7 0, .q 8 0, .q 9 0, .q 10 0, .q 11 0, .q 12 0, .q 13 0, .q 14 0, .c 15, .q 2 1, .q 3 1, .q 4 1, .q 16 0, .c 17]), (22, [.q 0 0, .q 1 0, .q 2 0, .q 3 0, .q 4 0, .q 5 0, .q 6 0, .q 7 0, .q 8 0, .c 9, .q 10 0]), (23, [.q 0 0, .q 1 0, .q 5 0, .q 6 0, .q 7 0, .q 8 0, .q 9 0, .q 10 0, .q 11 0, .q 12 0, .q 13 0, .q 14 0, .c 15, .q 2 1, .q 3 1, .q 4 1, .q 16 0, .c 17])]
noncomputable def fe295 : FE := feOf Tryz.f295 an295
def an296 : Nat → List DI := fun _ => []
noncomputable def fe296 : FE := feOf Tryz.f296 an296
def an297 : Nat → List DI := annOf [(1, [.q 0 0, .q 1 0, .q 4 0, .q 5 0, .q 6 0, .q 7 0, .q 8 0, .q 9 0, .q 10 0, .q 11 0, .q 12 0, .c 13, .q 2 1, .q 3 1, .q 14 0, .c 15]), (3, [.q 0 0, .q 1 0, .q 2 0, .q 3 0, .q 4 0, .q 5 0, .q 6 0, .q 7 0, .q 8 0, .q 9 0, .q 10 0, .q 11 0, .c 12, .q 13 0, .q 14 0]), (5, [.q 0 0, .q 1 0, .q 2 0, .q 3 0, .q 4 0, .q 5 0, .q 6 0, .q 7 0, .q 8 0, .q 9 0, .q 10 0, .q 11 0, .c 12, .q 13 0]), (8, [.q 0 0, .q 1 0, .q 4 0, .q 5 0, .q 6 0, .q 7 0, .q 8 0, .q 9 0, .q 10 0, .q 11 0, .q 12 0, .c 13, .q 2 1, .q 3 1, .q 14 0, .c 15])]
noncomputable def fe297 : FE := feOf Tryz.f297 an297
def an298 : Nat → List DI := annOf [(1, [.q 0 0, .q 1 0, .q 4 0, .q 5 0, .q 6 0, .q 7 0, .q 8 0, .q 9 0, .q 10 0, .q 11 0, .q 12 0, .c 13, .q 2 1, .q 3 1, .q 14 0, .c 15]), (3, [.q 0 0, .q 1 0, .q 2 0, .q 3 0, .q 4 0, .q 5 0, .q 6 0, .q 7 0, .q 8 0, .q 9 0, .q 10 0, .q 11 0, .c 12, .q 13 0]), (5, [.q 0 0, .q 1 0, .q 2 0, .q 3 0, .q 4 0, .q 5 0, .q 6 0, .q 7 0, .q 8 0, .q 9 0, .q 10 0, .q 11 0, .c 12, .q 13 0, .q 14 0]), (8, [.q 0 0, .q 1 0, .q 4 0, .q 5 0, .q 6 0, .q 7 0, .q 8 0, .q 9 0, .q 10 0, .q 11 0, .q 12 0, .c 13, .q 2 1, .q 3 1, .q 14 0, .c 15]), (10, [.q 0 0, .q 1 0, .q 4 0, .q 5 0, .q 6 0, .q 7 0, .q 8 0, .q 9 0, .q 10 0, .q 11 0, .q 12 0, .c 13, .q 2 1, .q 3 1, .q 14 0, .c 15]), (13, [.q 0 0, .q 1 0, .q 2 0, .q 3 0, .q 4 0, .q 5 0, .q 6 0, .q 7 0, .q 8 0, .q 9 0, .q 10 0, .q 11 0, .c 12, .q 13 0]), (15, [.q 0 0, .q 1 0, .q 2 0, .q 3 0, .q 4 0, .q 5 0, .q 6 0, .q 7 0, .q 8 0, .q 9 0, .q 10 0, .q 11 0, .c 12, .q 13 0, .q 14 0]), (18, [.q 0 0, .q 1 0, .q 4 0, .q 5 0, .q 6 0, .q 7 0, .q 8 0, .q 9 0, .q 10 0, .q 11 0, .q 12 0, .c 13, .q 2 1, .q 3 1, .q 14 0, .c 15]), (21, [.q 0 0, .q 1 0, .q 4 0, .q 5 0, .q 6 0, .q 7 0, .q 8 0, .q 9 0, .q 10 0, .q 11 0, .q 12 0, .c 13, .q 2 1, .q 3 1, .q 14 0, .c 15])]
noncomputable def fe298 : FE := feOf Tryz.f298 an298
def an299 : Nat → List DI := fun _ => []
noncomputable def fe299 : FE := feOf Tryz.f299 an299
def an300 : Nat → List DI := fun _ => []
noncomputable def fe300 : FE := feOf Tryz.f300 an300
def an301 : Nat → List DI := annOf [(1, [.q 0 0, .q 1 0, .q 2 0, .q 3 0, .q 4 0, .q 5 0, .q 6 0, .q 7 0, .q 8 0, .c 9, .q 10 0])]
noncomputable def fe301 : FE := feOf Tryz.f301 an301
def an302 : Nat → List DI := annOf [(3, [.q 0 0, .q 1 0, .q 2 0, .q 3 0, .q 4 0, .q 5 0, .q 6 0, .q 7 0, .q 8 0, .q 9 0, .q 10 0, .q 11 0, .q 12 0, .q 13 0, .q 14 0, .q 15 0, .q 16 0, .q 17 0, .c 18, .q 19 0]), (5, [.q 0 0, .q 1 0, .q 2 0, .q 3 0, .q 4 0, .q 5 0, .q 6 0, .q 7 0, .q 8 0, .q 9 0, .q 10 0, .q 11 0, .c 12, .q 13 0]), (6, [.q 0 0, .q 1 0, .q 2 0, .q 3 0, .q 8 0, .q 9 0, .q 10 0, .q 11 0, .q 12 0, .q 13 0, .q 14 0, .q 15 0, .q 16 0, .q 17 0, .q 18 0, .q 19 0, .q 20 0, .c 21, .q 4 1, .q 5 1, .q 6 1, .q 7 1, .q 22 0, .c 23])]
noncomputable def fe302 : FE := feOf Tryz.f302 an302
def an303 : Nat → List DI := fun _ => []
noncomputable def fe303 : FE := feOf Tryz.f303 an303
def an304 : Nat → List DI := fun _ => []
noncomputable def fe304 : FE := feOf Tryz.f304 an304
def an305 : Nat → List DI := annOf [(1, [.q 0 0, .q 1 0, .q 2 0, .q 3 0, .q 4 0, .q 5 0, .q 6 0, .q 7 0, .c 8])]
noncomputable def fe305 : FE := feOf Tryz.f305 an305
def an331 : Nat → List DI := fun _ => []
noncomputable def fe331 : FE := feOf Tryz.f331 an331
end Go.Proofs.YtjjiblgcmdbcoaaGreatDoor
