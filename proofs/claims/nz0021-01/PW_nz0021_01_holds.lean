import PyProof.Rows.All
import Wide.All
import OpenK.AllK
import Wide.FinOn
import Lean
import PySem.Challenge.RW_nz0021_01
set_option Elab.async false
set_option compiler.extract_closed false
set_option maxRecDepth 1000000
namespace Mine
namespace hd
open PySem PySem.Spec PySem.Calls PyProof.Rows PySem.W
noncomputable abbrev R : RowW := OpenRow.toRowW (OpenLaw.row PySem.Challenge.rw_nz0021_01)
noncomputable abbrev p : Program := (OpenRow.toRowW (OpenLaw.row PySem.Challenge.rw_nz0021_01)).1
noncomputable def env : Env := Env.mk (Module.scope (Program.main p)) mainNs mainNs [] Str.empty Option.none (Value.ref 13) (Option.some 14) 0
noncomputable abbrev loose : List Str := [Str.ofString "has_domains"]
noncomputable def view : Program := PySem.W.view p [0, 2, 3, 4, 5, 6, 7, 8, 9, 10, 11, 12, 13, 15, 16, 18, 19, 20, 21, 22, 23, 25, 26, 27, 28, 29, 30, 31, 32]
noncomputable def stp : List Nat → Stmt
  | [i] => (p.main.body[i]?).getD (.Pass ⟨0, 0, 0, 0⟩)
  | [i, j] => match (p.main.body[i]?).getD (.Pass ⟨0, 0, 0, 0⟩) with
    | .ClassDef _ _ _ b .. => (b[j]?).getD (.Pass ⟨0, 0, 0, 0⟩)
    | _ => .Pass ⟨0, 0, 0, 0⟩
  | _ => .Pass ⟨0, 0, 0, 0⟩
noncomputable def IsFn (st : Stmt) (a : Arguments) (b : List Stmt) (s : Scope) : Prop := ∃ n d r t ts bd q, st = .FunctionDef n a b d r t s ts bd q
theorem isf {st : Stmt} {a : Arguments} {b : List Stmt} {s : Scope} {n d r t ts bd q} (h : st = .FunctionDef n a b d r t s ts bd q) : IsFn st a b s := ⟨n, d, r, t, ts, bd, q, h⟩
noncomputable def kas : List Addr := [nat_lit 2, nat_lit 3, nat_lit 15, nat_lit 17, nat_lit 18, nat_lit 20, nat_lit 21, nat_lit 22, nat_lit 24, nat_lit 25, nat_lit 27, nat_lit 28, nat_lit 29, nat_lit 31, nat_lit 32, nat_lit 34, nat_lit 35, nat_lit 36, nat_lit 38, nat_lit 39, nat_lit 41, nat_lit 42, nat_lit 43, nat_lit 45, nat_lit 46, nat_lit 48, nat_lit 49, nat_lit 50, nat_lit 53, nat_lit 54, nat_lit 55, nat_lit 58, nat_lit 59, nat_lit 60, nat_lit 62, nat_lit 63, nat_lit 65, nat_lit 66, nat_lit 67, nat_lit 69, nat_lit 70, nat_lit 72, nat_lit 73, nat_lit 74, nat_lit 76, nat_lit 77, nat_lit 79, nat_lit 80, nat_lit 81, nat_lit 83, nat_lit 84, nat_lit 86, nat_lit 87, nat_lit 88, nat_lit 90, nat_lit 91, nat_lit 93, nat_lit 94, nat_lit 102, nat_lit 104, nat_lit 105, nat_lit 107, nat_lit 108, nat_lit 109, nat_lit 111, nat_lit 112, nat_lit 114, nat_lit 115, nat_lit 116, nat_lit 118, nat_lit 119, nat_lit 121, nat_lit 122, nat_lit 123, nat_lit 125, nat_lit 126, nat_lit 128, nat_lit 129, nat_lit 130, nat_lit 132, nat_lit 133, nat_lit 135, nat_lit 136, nat_lit 137, nat_lit 139, nat_lit 140, nat_lit 142, nat_lit 143, nat_lit 144, nat_lit 146, nat_lit 147, nat_lit 149, nat_lit 150, nat_lit 151, nat_lit 153, nat_lit 154, nat_lit 156, nat_lit 157, nat_lit 158, nat_lit 160, nat_lit 161, nat_lit 163, nat_lit 164, nat_lit 165, nat_lit 167, nat_lit 168, nat_lit 170, nat_lit 171, nat_lit 172, nat_lit 174, nat_lit 175, nat_lit 177, nat_lit 178, nat_lit 179, nat_lit 181, nat_lit 182, nat_lit 184, nat_lit 185, nat_lit 186, nat_lit 188, nat_lit 189, nat_lit 191, nat_lit 192, nat_lit 193, nat_lit 195, nat_lit 196, nat_lit 198, nat_lit 199, nat_lit 200, nat_lit 202, nat_lit 203, nat_lit 205, nat_lit 206, nat_lit 207, nat_lit 209, nat_lit 210, nat_lit 212, nat_lit 213, nat_lit 214, nat_lit 216, nat_lit 217, nat_lit 219, nat_lit 220, nat_lit 221, nat_lit 223, nat_lit 224, nat_lit 226, nat_lit 227, nat_lit 228, nat_lit 230, nat_lit 231, nat_lit 233, nat_lit 234, nat_lit 235, nat_lit 237, nat_lit 238, nat_lit 240, nat_lit 241, nat_lit 242, nat_lit 243, nat_lit 244, nat_lit 245, nat_lit 246, nat_lit 256, nat_lit 258, nat_lit 259, nat_lit 261, nat_lit 262, nat_lit 263, nat_lit 265, nat_lit 266, nat_lit 268, nat_lit 269, nat_lit 270, nat_lit 272, nat_lit 273, nat_lit 275, nat_lit 276, nat_lit 277, nat_lit 279, nat_lit 280, nat_lit 282, nat_lit 283, nat_lit 284, nat_lit 285, nat_lit 286, nat_lit 287, nat_lit 288, nat_lit 291, nat_lit 294, nat_lit 295, nat_lit 296, nat_lit 298, nat_lit 299, nat_lit 301, nat_lit 302, nat_lit 303, nat_lit 305, nat_lit 306, nat_lit 308, nat_lit 309, nat_lit 310, nat_lit 313, nat_lit 314, nat_lit 315, nat_lit 317, nat_lit 318, nat_lit 320, nat_lit 321, nat_lit 322, nat_lit 325, nat_lit 330, nat_lit 331, nat_lit 333, nat_lit 334, nat_lit 336, nat_lit 337, nat_lit 338, nat_lit 341, nat_lit 342, nat_lit 343, nat_lit 346, nat_lit 347, nat_lit 348, nat_lit 350, nat_lit 351, nat_lit 353, nat_lit 354, nat_lit 355, nat_lit 357, nat_lit 358, nat_lit 360, nat_lit 361, nat_lit 362, nat_lit 363, nat_lit 364, nat_lit 367, nat_lit 368, nat_lit 370, nat_lit 371, nat_lit 373, nat_lit 374, nat_lit 375, nat_lit 378, nat_lit 379, nat_lit 380, nat_lit 382, nat_lit 383, nat_lit 385, nat_lit 386, nat_lit 387, nat_lit 390, nat_lit 391, nat_lit 392, nat_lit 394, nat_lit 395, nat_lit 397, nat_lit 398, nat_lit 399, nat_lit 402, nat_lit 403, nat_lit 404, nat_lit 407, nat_lit 408]
noncomputable def heap_39 : Params → Frag :=
  (fun (a0 : Arguments) (b0 : List Stmt) (s0 : Scope) (_ : IsFn (stp [0]) a0 b0 s0) (a1 : Arguments) (b1 : List Stmt) (s1 : Scope) (_ : IsFn (stp [2]) a1 b1 s1) (a2 : Arguments) (b2 : List Stmt) (s2 : Scope) (_ : IsFn (stp [3]) a2 b2 s2) (a3 : Arguments) (b3 : List Stmt) (s3 : Scope) (_ : IsFn (stp [4]) a3 b3 s3) (a4 : Arguments) (b4 : List Stmt) (s4 : Scope) (_ : IsFn (stp [5]) a4 b4 s4) (a5 : Arguments) (b5 : List Stmt) (s5 : Scope) (_ : IsFn (stp [7]) a5 b5 s5) (a6 : Arguments) (b6 : List Stmt) (s6 : Scope) (_ : IsFn (stp [8]) a6 b6 s6) (a7 : Arguments) (b7 : List Stmt) (s7 : Scope) (_ : IsFn (stp [9]) a7 b7 s7) (a8 : Arguments) (b8 : List Stmt) (s8 : Scope) (_ : IsFn (stp [10]) a8 b8 s8) (a9 : Arguments) (b9 : List Stmt) (s9 : Scope) (_ : IsFn (stp [11]) a9 b9 s9) (a10 : Arguments) (b10 : List Stmt) (s10 : Scope) (_ : IsFn (stp [12]) a10 b10 s10) (a11 : Arguments) (b11 : List Stmt) (s11 : Scope) (_ : IsFn (stp [13]) a11 b11 s11) (a12 : Arguments) (b12 : List Stmt) (s12 : Scope) (_ : IsFn (stp [15, 0]) a12 b12 s12) (a13 : Arguments) (b13 : List Stmt) (s13 : Scope) (_ : IsFn (stp [15, 1]) a13 b13 s13) (a14 : Arguments) (b14 : List Stmt) (s14 : Scope) (_ : IsFn (stp [15, 2]) a14 b14 s14) (a15 : Arguments) (b15 : List Stmt) (s15 : Scope) (_ : IsFn (stp [15, 3]) a15 b15 s15) (a16 : Arguments) (b16 : List Stmt) (s16 : Scope) (_ : IsFn (stp [15, 4]) a16 b16 s16) (a17 : Arguments) (b17 : List Stmt) (s17 : Scope) (_ : IsFn (stp [15, 5]) a17 b17 s17) (a18 : Arguments) (b18 : List Stmt) (s18 : Scope) (_ : IsFn (stp [15, 6]) a18 b18 s18) (a19 : Arguments) (b19 : List Stmt) (s19 : Scope) (_ : IsFn (stp [15, 7]) a19 b19 s19) (a20 : Arguments) (b20 : List Stmt) (s20 : Scope) (_ : IsFn (stp [15, 8]) a20 b20 s20) (a21 : Arguments) (b21 : List Stmt) (s21 : Scope) (_ : IsFn (stp [15, 9]) a21 b21 s21) (a22 : Arguments) (b22 : List Stmt) (s22 : Scope) (_ : IsFn (stp [15, 10]) a22 b22 s22) (a23 : Arguments) (b23 : List Stmt) (s23 : Scope) (_ : IsFn (stp [15, 11]) a23 b23 s23) (a24 : Arguments) (b24 : List Stmt) (s24 : Scope) (_ : IsFn (stp [15, 12]) a24 b24 s24) (a25 : Arguments) (b25 : List Stmt) (s25 : Scope) (_ : IsFn (stp [15, 13]) a25 b25 s25) (a26 : Arguments) (b26 : List Stmt) (s26 : Scope) (_ : IsFn (stp [15, 14]) a26 b26 s26) (a27 : Arguments) (b27 : List Stmt) (s27 : Scope) (_ : IsFn (stp [15, 15]) a27 b27 s27) (a28 : Arguments) (b28 : List Stmt) (s28 : Scope) (_ : IsFn (stp [15, 16]) a28 b28 s28) (a29 : Arguments) (b29 : List Stmt) (s29 : Scope) (_ : IsFn (stp [15, 17]) a29 b29 s29) (a30 : Arguments) (b30 : List Stmt) (s30 : Scope) (_ : IsFn (stp [15, 18]) a30 b30 s30) (a31 : Arguments) (b31 : List Stmt) (s31 : Scope) (_ : IsFn (stp [15, 19]) a31 b31 s31) (a32 : Arguments) (b32 : List Stmt) (s32 : Scope) (_ : IsFn (stp [16, 0]) a32 b32 s32) (a33 : Arguments) (b33 : List Stmt) (s33 : Scope) (_ : IsFn (stp [16, 1]) a33 b33 s33) (a34 : Arguments) (b34 : List Stmt) (s34 : Scope) (_ : IsFn (stp [16, 2]) a34 b34 s34) (a35 : Arguments) (b35 : List Stmt) (s35 : Scope) (_ : IsFn (stp [16, 3]) a35 b35 s35) (a36 : Arguments) (b36 : List Stmt) (s36 : Scope) (_ : IsFn (stp [18]) a36 b36 s36) (a37 : Arguments) (b37 : List Stmt) (s37 : Scope) (_ : IsFn (stp [19]) a37 b37 s37) (a38 : Arguments) (b38 : List Stmt) (s38 : Scope) (_ : IsFn (stp [20]) a38 b38 s38) (a39 : Arguments) (b39 : List Stmt) (s39 : Scope) (_ : IsFn (stp [21]) a39 b39 s39) (a40 : Arguments) (b40 : List Stmt) (s40 : Scope) (_ : IsFn (stp [22]) a40 b40 s40) (a41 : Arguments) (b41 : List Stmt) (s41 : Scope) (_ : IsFn (stp [23, 0]) a41 b41 s41) (a42 : Arguments) (b42 : List Stmt) (s42 : Scope) (_ : IsFn (stp [23, 1]) a42 b42 s42) (a43 : Arguments) (b43 : List Stmt) (s43 : Scope) (_ : IsFn (stp [23, 2]) a43 b43 s43) (a44 : Arguments) (b44 : List Stmt) (s44 : Scope) (_ : IsFn (stp [23, 3]) a44 b44 s44) (a45 : Arguments) (b45 : List Stmt) (s45 : Scope) (_ : IsFn (stp [23, 4]) a45 b45 s45) (a46 : Arguments) (b46 : List Stmt) (s46 : Scope) (_ : IsFn (stp [26]) a46 b46 s46) (a47 : Arguments) (b47 : List Stmt) (s47 : Scope) (_ : IsFn (stp [27]) a47 b47 s47) (a48 : Arguments) (b48 : List Stmt) (s48 : Scope) (_ : IsFn (stp [28]) a48 b48 s48) (a49 : Arguments) (b49 : List Stmt) (s49 : Scope) (_ : IsFn (stp [29]) a49 b49 s49) (a50 : Arguments) (b50 : List Stmt) (s50 : Scope) (_ : IsFn (stp [30]) a50 b50 s50) (a51 : Arguments) (b51 : List Stmt) (s51 : Scope) (_ : IsFn (stp [31]) a51 b51 s51) (a52 : Arguments) (b52 : List Stmt) (s52 : Scope) (_ : IsFn (stp [32]) a52 b52 s52) (P : Params) => ((nat_lit 2, Obj.mk Value.none none (Data.dict #[]) #[]) :: (nat_lit 3, Obj.mk (Value.type "dict") none (Data.dict #[DictEntry.mk (PyData.keyHash P (.ofString "__name__")) (Value.str (.ofString "__name__") 165) (Value.str (.ofString "law_nz0021_01") 647), DictEntry.mk (PyData.keyHash P (.ofString "__doc__")) (Value.str (.ofString "__doc__") 166) Value.none, DictEntry.mk (PyData.keyHash P (.ofString "__package__")) (Value.str (.ofString "__package__") 167) Value.none, DictEntry.mk (PyData.keyHash P (.ofString "__loader__")) (Value.str (.ofString "__loader__") 168) (Value.builtin "__main__.__loader__#opaque"), DictEntry.mk (PyData.keyHash P (.ofString "__spec__")) (Value.str (.ofString "__spec__") 169) Value.none, DictEntry.mk (PyData.keyHash P (.ofString "__annotations__")) (Value.str (.ofString "__annotations__") 170) (Value.ref 6), DictEntry.mk (PyData.keyHash P (.ofString "__builtins__")) (Value.str (.ofString "__builtins__") 171) (Value.ref 4), DictEntry.mk (PyData.keyHash P (.ofString "__file__")) (Value.str (.ofString "__file__") 173) (Value.str (.ofString "/claim/cut.py") 172), DictEntry.mk (PyData.keyHash P (.ofString "__cached__")) (Value.str (.ofString "__cached__") 174) Value.none, DictEntry.mk (PyData.keyHash P (.ofString "_wall")) (Value.str (.ofString "_wall") 193) (Value.ref 21), DictEntry.mk (PyData.keyHash P (.ofString "least")) (Value.str (.ofString "least") 202) (Value.ref 28), DictEntry.mk (PyData.keyHash P (.ofString "greatest")) (Value.str (.ofString "greatest") 209) (Value.ref 35), DictEntry.mk (PyData.keyHash P (.ofString "next_from")) (Value.str (.ofString "next_from") 219) (Value.ref 42), DictEntry.mk (PyData.keyHash P (.ofString "has")) (Value.str (.ofString "has") 227) (Value.ref 49), DictEntry.mk (PyData.keyHash P (.ofString "has_domains")) (Value.str (.ofString "has_domains") 228) (Value.ref 49), DictEntry.mk (PyData.keyHash P (.ofString "up_to")) (Value.str (.ofString "up_to") 234) (Value.ref 54), DictEntry.mk (PyData.keyHash P (.ofString "from_on")) (Value.str (.ofString "from_on") 240) (Value.ref 59), DictEntry.mk (PyData.keyHash P (.ofString "without")) (Value.str (.ofString "without") 248) (Value.ref 66), DictEntry.mk (PyData.keyHash P (.ofString "meet")) (Value.str (.ofString "meet") 261) (Value.ref 73), DictEntry.mk (PyData.keyHash P (.ofString "negation")) (Value.str (.ofString "negation") 271) (Value.ref 80), DictEntry.mk (PyData.keyHash P (.ofString "struck")) (Value.str (.ofString "struck") 281) (Value.ref 87), DictEntry.mk (PyData.keyHash P (.ofString "said_of")) (Value.str (.ofString "said_of") 290) (Value.ref 94), DictEntry.mk (PyData.keyHash P (.ofString "Store")) (Value.str (.ofString "Store") 484) (Value.ref 244), DictEntry.mk (PyData.keyHash P (.ofString "Propagator")) (Value.str (.ofString "Propagator") 539) (Value.ref 286), DictEntry.mk (PyData.keyHash P (.ofString "rows_of")) (Value.str (.ofString "rows_of") 547) (Value.ref 295), DictEntry.mk (PyData.keyHash P (.ofString "least_term")) (Value.str (.ofString "least_term") 556) (Value.ref 302), DictEntry.mk (PyData.keyHash P (.ofString "least_reasons")) (Value.str (.ofString "least_reasons") 569) (Value.ref 309), DictEntry.mk (PyData.keyHash P (.ofString "strike_le")) (Value.str (.ofString "strike_le") 575) (Value.ref 314), DictEntry.mk (PyData.keyHash P (.ofString "divisor_of")) (Value.str (.ofString "divisor_of") 587) (Value.ref 321), DictEntry.mk (PyData.keyHash P (.ofString "LinearEq")) (Value.str (.ofString "LinearEq") 646) (Value.ref 364), DictEntry.mk (PyData.keyHash P (.ofString "_law_menu")) (Value.str (.ofString "_law_menu") 665) (Value.ref 367), DictEntry.mk (PyData.keyHash P (.ofString "_law_draw")) (Value.str (.ofString "_law_draw") 676) (Value.ref 374), DictEntry.mk (PyData.keyHash P (.ofString "_law_gathered")) (Value.str (.ofString "_law_gathered") 682) (Value.ref 379), DictEntry.mk (PyData.keyHash P (.ofString "_law_walk")) (Value.str (.ofString "_law_walk") 696) (Value.ref 386), DictEntry.mk (PyData.keyHash P (.ofString "_law_is_divisor_right")) (Value.str (.ofString "_law_is_divisor_right") 702) (Value.ref 391), DictEntry.mk (PyData.keyHash P (.ofString "_law_can_be")) (Value.str (.ofString "_law_can_be") 712) (Value.ref 398), DictEntry.mk (PyData.keyHash P (.ofString "_law_is_asked_right")) (Value.str (.ofString "_law_is_asked_right") 718) (Value.ref 403), DictEntry.mk (PyData.keyHash P (.ofString "law")) (Value.str (.ofString "law") 724) (Value.ref 408)] 38) #[]) :: (nat_lit 15, Obj.mk (Value.type "tuple") none (Data.seq #[]) #[]) :: (nat_lit 17, Obj.mk (Value.type "tuple") none (Data.seq #[Value.str (.ofString "k") 190]) #[]) :: (nat_lit 18, Obj.mk (Value.type "tuple") none (Data.seq #[]) #[]) :: (nat_lit 20, Obj.mk (Value.type "code") none (Data.fields #[Value.str (.ofString "_wall") 187, Value.str (.ofString "_wall") 188, Value.str (.ofString "/claim/cut.py") 189, Value.int 1 0, Value.int 1 0, Value.int 0 0, Value.int 0 0, Value.int 3 0, Value.ref 15, Value.bool true, Value.int 181 0, Value.ref 16, Value.none, Value.ref 17, Value.ref 18, Value.ref 19, Value.int 191 0, Value.int 1 0, Value.str (.ofString "/claim/cut.py") 192]) #[]) :: (nat_lit 21, Obj.mk (Value.type "function") none (Data.func (FuncData.mk (Str.ofString "_wall") (Str.ofString "_wall") a0 (.stmts b0) s0 3 [] Value.none Value.none Value.none (Value.str (.ofString "__main__") 164) none (Value.ref 20) Value.none 0)) #[]) :: (nat_lit 22, Obj.mk (Value.type "tuple") none (Data.seq #[]) #[]) :: (nat_lit 24, Obj.mk (Value.type "tuple") none (Data.seq #[Value.str (.ofString "d") 199]) #[]) :: (nat_lit 25, Obj.mk (Value.type "tuple") none (Data.seq #[]) #[]) :: (nat_lit 27, Obj.mk (Value.type "code") none (Data.fields #[Value.str (.ofString "least") 196, Value.str (.ofString "least") 197, Value.str (.ofString "/claim/cut.py") 198, Value.int 5 0, Value.int 1 0, Value.int 0 0, Value.int 0 0, Value.int 3 0, Value.ref 22, Value.bool true, Value.int 181 0, Value.ref 23, Value.none, Value.ref 24, Value.ref 25, Value.ref 26, Value.int 200 0, Value.int 5 0, Value.str (.ofString "/claim/cut.py") 201]) #[]) :: (nat_lit 28, Obj.mk (Value.type "function") none (Data.func (FuncData.mk (Str.ofString "least") (Str.ofString "least") a1 (.stmts b1) s1 3 [] Value.none Value.none Value.none (Value.str (.ofString "fdsolve.domains") 194) none (Value.ref 27) Value.none 0)) #[]) :: (nat_lit 29, Obj.mk (Value.type "tuple") none (Data.seq #[]) #[]) :: (nat_lit 31, Obj.mk (Value.type "tuple") none (Data.seq #[Value.str (.ofString "d") 206]) #[]) :: (nat_lit 32, Obj.mk (Value.type "tuple") none (Data.seq #[]) #[]) :: (nat_lit 34, Obj.mk (Value.type "code") none (Data.fields #[Value.str (.ofString "greatest") 203, Value.str (.ofString "greatest") 204, Value.str (.ofString "/claim/cut.py") 205, Value.int 7 0, Value.int 1 0, Value.int 0 0, Value.int 0 0, Value.int 3 0, Value.ref 29, Value.bool true, Value.int 181 0, Value.ref 30, Value.none, Value.ref 31, Value.ref 32, Value.ref 33, Value.int 207 0, Value.int 7 0, Value.str (.ofString "/claim/cut.py") 208]) #[]) :: (nat_lit 35, Obj.mk (Value.type "function") none (Data.func (FuncData.mk (Str.ofString "greatest") (Str.ofString "greatest") a2 (.stmts b2) s2 3 [] Value.none Value.none Value.none (Value.str (.ofString "fdsolve.domains") 194) none (Value.ref 34) Value.none 0)) #[]) :: (nat_lit 36, Obj.mk (Value.type "tuple") none (Data.seq #[]) #[]) :: (nat_lit 38, Obj.mk (Value.type "tuple") none (Data.seq #[Value.str (.ofString "d") 213, Value.str (.ofString "v") 214, Value.str (.ofString "low") 215, Value.str (.ofString "high") 216]) #[]) :: (nat_lit 39, Obj.mk (Value.type "tuple") none (Data.seq #[]) #[]) :: (nat_lit 41, Obj.mk (Value.type "code") none (Data.fields #[Value.str (.ofString "next_from") 210, Value.str (.ofString "next_from") 211, Value.str (.ofString "/claim/cut.py") 212, Value.int 9 0, Value.int 2 0, Value.int 0 0, Value.int 0 0, Value.int 3 0, Value.ref 36, Value.bool true, Value.int 181 0, Value.ref 37, Value.none, Value.ref 38, Value.ref 39, Value.ref 40, Value.int 217 0, Value.int 9 0, Value.str (.ofString "/claim/cut.py") 218]) #[]) :: (nat_lit 42, Obj.mk (Value.type "function") none (Data.func (FuncData.mk (Str.ofString "next_from") (Str.ofString "next_from") a3 (.stmts b3) s3 3 [] Value.none Value.none Value.none (Value.str (.ofString "fdsolve.domains") 194) none (Value.ref 41) Value.none 0)) #[]) :: (nat_lit 43, Obj.mk (Value.type "tuple") none (Data.seq #[]) #[]) :: (nat_lit 45, Obj.mk (Value.type "tuple") none (Data.seq #[Value.str (.ofString "d") 223, Value.str (.ofString "v") 224]) #[]) :: (nat_lit 46, Obj.mk (Value.type "tuple") none (Data.seq #[]) #[]) :: (nat_lit 48, Obj.mk (Value.type "code") none (Data.fields #[Value.str (.ofString "has") 220, Value.str (.ofString "has") 221, Value.str (.ofString "/claim/cut.py") 222, Value.int 14 0, Value.int 2 0, Value.int 0 0, Value.int 0 0, Value.int 3 0, Value.ref 43, Value.bool true, Value.int 181 0, Value.ref 44, Value.none, Value.ref 45, Value.ref 46, Value.ref 47, Value.int 225 0, Value.int 14 0, Value.str (.ofString "/claim/cut.py") 226]) #[]) :: (nat_lit 49, Obj.mk (Value.type "function") none (Data.func (FuncData.mk (Str.ofString "has") (Str.ofString "has") a4 (.stmts b4) s4 3 [] Value.none Value.none Value.none (Value.str (.ofString "fdsolve.domains") 194) none (Value.ref 48) Value.none 0)) #[]) :: (nat_lit 50, Obj.mk (Value.type "tuple") none (Data.seq #[]) #[]) :: (nat_lit 53, Obj.mk (Value.type "code") none (Data.fields #[Value.str (.ofString "up_to") 229, Value.str (.ofString "up_to") 230, Value.str (.ofString "/claim/cut.py") 231, Value.int 17 0, Value.int 2 0, Value.int 0 0, Value.int 0 0, Value.int 3 0, Value.ref 50, Value.bool true, Value.int 181 0, Value.ref 51, Value.none, Value.none, Value.none, Value.ref 52, Value.int 232 0, Value.int 17 0, Value.str (.ofString "/claim/cut.py") 233]) #[]) :: (nat_lit 54, Obj.mk (Value.type "function") none (Data.func (FuncData.mk (Str.ofString "up_to") (Str.ofString "up_to") a5 (.stmts b5) s5 3 [] Value.none Value.none Value.none (Value.str (.ofString "fdsolve.domains") 194) none (Value.ref 53) Value.none 0)) #[]) :: (nat_lit 55, Obj.mk (Value.type "tuple") none (Data.seq #[]) #[]) :: (nat_lit 58, Obj.mk (Value.type "code") none (Data.fields #[Value.str (.ofString "from_on") 235, Value.str (.ofString "from_on") 236, Value.str (.ofString "/claim/cut.py") 237, Value.int 19 0, Value.int 2 0, Value.int 0 0, Value.int 0 0, Value.int 3 0, Value.ref 55, Value.bool true, Value.int 181 0, Value.ref 56, Value.none, Value.none, Value.none, Value.ref 57, Value.int 238 0, Value.int 19 0, Value.str (.ofString "/claim/cut.py") 239]) #[]) :: (nat_lit 59, Obj.mk (Value.type "function") none (Data.func (FuncData.mk (Str.ofString "from_on") (Str.ofString "from_on") a6 (.stmts b6) s6 3 [] Value.none Value.none Value.none (Value.str (.ofString "fdsolve.domains") 194) none (Value.ref 58) Value.none 0)) #[]) :: (nat_lit 60, Obj.mk (Value.type "tuple") none (Data.seq #[]) #[]) :: (nat_lit 62, Obj.mk (Value.type "tuple") none (Data.seq #[Value.str (.ofString "d") 244, Value.str (.ofString "v") 245]) #[]) :: (nat_lit 63, Obj.mk (Value.type "tuple") none (Data.seq #[]) #[]) :: (nat_lit 65, Obj.mk (Value.type "code") none (Data.fields #[Value.str (.ofString "without") 241, Value.str (.ofString "without") 242, Value.str (.ofString "/claim/cut.py") 243, Value.int 21 0, Value.int 2 0, Value.int 0 0, Value.int 0 0, Value.int 3 0, Value.ref 60, Value.bool true, Value.int 181 0, Value.ref 61, Value.none, Value.ref 62, Value.ref 63, Value.ref 64, Value.int 246 0, Value.int 21 0, Value.str (.ofString "/claim/cut.py") 247]) #[]) :: (nat_lit 66, Obj.mk (Value.type "function") none (Data.func (FuncData.mk (Str.ofString "without") (Str.ofString "without") a7 (.stmts b7) s7 3 [] Value.none Value.none Value.none (Value.str (.ofString "fdsolve.domains") 194) none (Value.ref 65) Value.none 0)) #[]) :: (nat_lit 67, Obj.mk (Value.type "tuple") none (Data.seq #[]) #[]) :: (nat_lit 69, Obj.mk (Value.type "tuple") none (Data.seq #[Value.str (.ofString "d") 252, Value.str (.ofString "e") 253, Value.str (.ofString "found") 254, Value.str (.ofString "i") 255, Value.str (.ofString "j") 256, Value.str (.ofString "low") 257, Value.str (.ofString "high") 258]) #[]) :: (nat_lit 70, Obj.mk (Value.type "tuple") none (Data.seq #[]) #[]) :: (nat_lit 72, Obj.mk (Value.type "code") none (Data.fields #[Value.str (.ofString "meet") 249, Value.str (.ofString "meet") 250, Value.str (.ofString "/claim/cut.py") 251, Value.int 23 0, Value.int 2 0, Value.int 0 0, Value.int 0 0, Value.int 3 0, Value.ref 67, Value.bool true, Value.int 181 0, Value.ref 68, Value.none, Value.ref 69, Value.ref 70, Value.ref 71, Value.int 259 0, Value.int 23 0, Value.str (.ofString "/claim/cut.py") 260]) #[]) :: (nat_lit 73, Obj.mk (Value.type "function") none (Data.func (FuncData.mk (Str.ofString "meet") (Str.ofString "meet") a8 (.stmts b8) s8 3 [] Value.none Value.none Value.none (Value.str (.ofString "fdsolve.domains") 194) none (Value.ref 72) Value.none 0)) #[]) :: (nat_lit 74, Obj.mk (Value.type "tuple") none (Data.seq #[]) #[]) :: (nat_lit 76, Obj.mk (Value.type "tuple") none (Data.seq #[Value.str (.ofString "literal") 265, Value.str (.ofString "x") 266, Value.str (.ofString "sign") 267, Value.str (.ofString "k") 268]) #[]) :: (nat_lit 77, Obj.mk (Value.type "tuple") none (Data.seq #[]) #[]) :: (nat_lit 79, Obj.mk (Value.type "code") none (Data.fields #[Value.str (.ofString "negation") 262, Value.str (.ofString "negation") 263, Value.str (.ofString "/claim/cut.py") 264, Value.int 34 0, Value.int 1 0, Value.int 0 0, Value.int 0 0, Value.int 3 0, Value.ref 74, Value.bool true, Value.int 181 0, Value.ref 75, Value.none, Value.ref 76, Value.ref 77, Value.ref 78, Value.int 269 0, Value.int 34 0, Value.str (.ofString "/claim/cut.py") 270]) #[]) :: (nat_lit 80, Obj.mk (Value.type "function") none (Data.func (FuncData.mk (Str.ofString "negation") (Str.ofString "negation") a9 (.stmts b9) s9 3 [] Value.none Value.none Value.none (Value.str (.ofString "fdsolve.domains") 194) none (Value.ref 79) Value.none 0)) #[]) :: (nat_lit 81, Obj.mk (Value.type "tuple") none (Data.seq #[]) #[]) :: (nat_lit 83, Obj.mk (Value.type "tuple") none (Data.seq #[Value.str (.ofString "literal") 275, Value.str (.ofString "d") 276, Value.str (.ofString "sign") 277, Value.str (.ofString "k") 278]) #[]) :: (nat_lit 84, Obj.mk (Value.type "tuple") none (Data.seq #[]) #[]) :: (nat_lit 86, Obj.mk (Value.type "code") none (Data.fields #[Value.str (.ofString "struck") 272, Value.str (.ofString "struck") 273, Value.str (.ofString "/claim/cut.py") 274, Value.int 41 0, Value.int 2 0, Value.int 0 0, Value.int 0 0, Value.int 3 0, Value.ref 81, Value.bool true, Value.int 181 0, Value.ref 82, Value.none, Value.ref 83, Value.ref 84, Value.ref 85, Value.int 279 0, Value.int 41 0, Value.str (.ofString "/claim/cut.py") 280]) #[]) :: (nat_lit 87, Obj.mk (Value.type "function") none (Data.func (FuncData.mk (Str.ofString "struck") (Str.ofString "struck") a10 (.stmts b10) s10 3 [] Value.none Value.none Value.none (Value.str (.ofString "fdsolve.domains") 194) none (Value.ref 86) Value.none 0)) #[]) :: (nat_lit 88, Obj.mk (Value.type "tuple") none (Data.seq #[]) #[]) :: (nat_lit 90, Obj.mk (Value.type "tuple") none (Data.seq #[Value.str (.ofString "literal") 285, Value.str (.ofString "d") 286, Value.str (.ofString "kept") 287]) #[]) :: (nat_lit 91, Obj.mk (Value.type "tuple") none (Data.seq #[]) #[]) :: (nat_lit 93, Obj.mk (Value.type "code") none (Data.fields #[Value.str (.ofString "said_of") 282, Value.str (.ofString "said_of") 283, Value.str (.ofString "/claim/cut.py") 284, Value.int 48 0, Value.int 2 0, Value.int 0 0, Value.int 0 0, Value.int 3 0, Value.ref 88, Value.bool true, Value.int 181 0, Value.ref 89, Value.none, Value.ref 90, Value.ref 91, Value.ref 92, Value.int 288 0, Value.int 48 0, Value.str (.ofString "/claim/cut.py") 289]) #[]) :: (nat_lit 94, Obj.mk (Value.type "function") none (Data.func (FuncData.mk (Str.ofString "said_of") (Str.ofString "said_of") a11 (.stmts b11) s11 3 [] Value.none Value.none Value.none (Value.str (.ofString "fdsolve.domains") 194) none (Value.ref 93) Value.none 0)) #[]) :: (nat_lit 102, Obj.mk (Value.type "tuple") none (Data.seq #[]) #[]) :: (nat_lit 104, Obj.mk (Value.type "tuple") none (Data.seq #[Value.str (.ofString "self") 308]) #[]) :: (nat_lit 105, Obj.mk (Value.type "tuple") none (Data.seq #[]) #[]) :: (nat_lit 107, Obj.mk (Value.type "code") none (Data.fields #[Value.str (.ofString "__init__") 305, Value.str (.ofString "Store.__init__") 306, Value.str (.ofString "/claim/cut.py") 307, Value.int 56 0, Value.int 1 0, Value.int 0 0, Value.int 0 0, Value.int 3 0, Value.ref 102, Value.bool true, Value.int 181 0, Value.ref 103, Value.none, Value.ref 104, Value.ref 105, Value.ref 106, Value.int 309 0, Value.int 56 0, Value.str (.ofString "/claim/cut.py") 310]) #[]) :: (nat_lit 108, Obj.mk (Value.type "function") none (Data.func (FuncData.mk (Str.ofString "__init__") (Str.ofString "Store.__init__") a12 (.stmts b12) s12 3 [] Value.none Value.none Value.none (Value.str (.ofString "fdsolve.store") 291) none (Value.ref 107) Value.none 0)) #[]) :: (nat_lit 109, Obj.mk (Value.type "tuple") none (Data.seq #[]) #[]) :: (nat_lit 111, Obj.mk (Value.type "tuple") none (Data.seq #[Value.str (.ofString "self") 315, Value.str (.ofString "domain") 316]) #[]) :: (nat_lit 112, Obj.mk (Value.type "tuple") none (Data.seq #[]) #[]) :: (nat_lit 114, Obj.mk (Value.type "code") none (Data.fields #[Value.str (.ofString "new_var") 312, Value.str (.ofString "Store.new_var") 313, Value.str (.ofString "/claim/cut.py") 314, Value.int 66 0, Value.int 2 0, Value.int 0 0, Value.int 0 0, Value.int 3 0, Value.ref 109, Value.bool true, Value.int 181 0, Value.ref 110, Value.none, Value.ref 111, Value.ref 112, Value.ref 113, Value.int 317 0, Value.int 66 0, Value.str (.ofString "/claim/cut.py") 318]) #[]) :: (nat_lit 115, Obj.mk (Value.type "function") none (Data.func (FuncData.mk (Str.ofString "new_var") (Str.ofString "Store.new_var") a13 (.stmts b13) s13 3 [] Value.none Value.none Value.none (Value.str (.ofString "fdsolve.store") 291) none (Value.ref 114) Value.none 0)) #[]) :: (nat_lit 116, Obj.mk (Value.type "tuple") none (Data.seq #[]) #[]) :: (nat_lit 118, Obj.mk (Value.type "tuple") none (Data.seq #[Value.str (.ofString "self") 323]) #[]) :: (nat_lit 119, Obj.mk (Value.type "tuple") none (Data.seq #[]) #[]) :: (nat_lit 121, Obj.mk (Value.type "code") none (Data.fields #[Value.str (.ofString "size") 320, Value.str (.ofString "Store.size") 321, Value.str (.ofString "/claim/cut.py") 322, Value.int 73 0, Value.int 1 0, Value.int 0 0, Value.int 0 0, Value.int 3 0, Value.ref 116, Value.bool true, Value.int 181 0, Value.ref 117, Value.none, Value.ref 118, Value.ref 119, Value.ref 120, Value.int 324 0, Value.int 73 0, Value.str (.ofString "/claim/cut.py") 325]) #[]) :: (nat_lit 122, Obj.mk (Value.type "function") none (Data.func (FuncData.mk (Str.ofString "size") (Str.ofString "Store.size") a14 (.stmts b14) s14 3 [] Value.none Value.none Value.none (Value.str (.ofString "fdsolve.store") 291) none (Value.ref 121) Value.none 0)) #[]) :: (nat_lit 123, Obj.mk (Value.type "tuple") none (Data.seq #[]) #[]) :: (nat_lit 125, Obj.mk (Value.type "tuple") none (Data.seq #[Value.str (.ofString "self") 330, Value.str (.ofString "x") 331]) #[]) :: (nat_lit 126, Obj.mk (Value.type "tuple") none (Data.seq #[]) #[]) :: (nat_lit 128, Obj.mk (Value.type "code") none (Data.fields #[Value.str (.ofString "dom") 327, Value.str (.ofString "Store.dom") 328, Value.str (.ofString "/claim/cut.py") 329, Value.int 76 0, Value.int 2 0, Value.int 0 0, Value.int 0 0, Value.int 3 0, Value.ref 123, Value.bool true, Value.int 181 0, Value.ref 124, Value.none, Value.ref 125, Value.ref 126, Value.ref 127, Value.int 332 0, Value.int 76 0, Value.str (.ofString "/claim/cut.py") 333]) #[]) :: (nat_lit 129, Obj.mk (Value.type "function") none (Data.func (FuncData.mk (Str.ofString "dom") (Str.ofString "Store.dom") a15 (.stmts b15) s15 3 [] Value.none Value.none Value.none (Value.str (.ofString "fdsolve.store") 291) none (Value.ref 128) Value.none 0)) #[]) :: (nat_lit 130, Obj.mk (Value.type "tuple") none (Data.seq #[]) #[]) :: (nat_lit 132, Obj.mk (Value.type "tuple") none (Data.seq #[Value.str (.ofString "self") 338, Value.str (.ofString "x") 339]) #[]) :: (nat_lit 133, Obj.mk (Value.type "tuple") none (Data.seq #[]) #[]) :: (nat_lit 135, Obj.mk (Value.type "code") none (Data.fields #[Value.str (.ofString "initial") 335, Value.str (.ofString "Store.initial") 336, Value.str (.ofString "/claim/cut.py") 337, Value.int 79 0, Value.int 2 0, Value.int 0 0, Value.int 0 0, Value.int 3 0, Value.ref 130, Value.bool true, Value.int 181 0, Value.ref 131, Value.none, Value.ref 132, Value.ref 133, Value.ref 134, Value.int 340 0, Value.int 79 0, Value.str (.ofString "/claim/cut.py") 341]) #[]) :: (nat_lit 136, Obj.mk (Value.type "function") none (Data.func (FuncData.mk (Str.ofString "initial") (Str.ofString "Store.initial") a16 (.stmts b16) s16 3 [] Value.none Value.none Value.none (Value.str (.ofString "fdsolve.store") 291) none (Value.ref 135) Value.none 0)) #[]) :: (nat_lit 137, Obj.mk (Value.type "tuple") none (Data.seq #[]) #[]) :: (nat_lit 139, Obj.mk (Value.type "tuple") none (Data.seq #[Value.str (.ofString "self") 346, Value.str (.ofString "x") 347]) #[]) :: (nat_lit 140, Obj.mk (Value.type "tuple") none (Data.seq #[]) #[]) :: (nat_lit 142, Obj.mk (Value.type "code") none (Data.fields #[Value.str (.ofString "low") 343, Value.str (.ofString "Store.low") 344, Value.str (.ofString "/claim/cut.py") 345, Value.int 82 0, Value.int 2 0, Value.int 0 0, Value.int 0 0, Value.int 3 0, Value.ref 137, Value.bool true, Value.int 181 0, Value.ref 138, Value.none, Value.ref 139, Value.ref 140, Value.ref 141, Value.int 348 0, Value.int 82 0, Value.str (.ofString "/claim/cut.py") 349]) #[]) :: (nat_lit 143, Obj.mk (Value.type "function") none (Data.func (FuncData.mk (Str.ofString "low") (Str.ofString "Store.low") a17 (.stmts b17) s17 3 [] Value.none Value.none Value.none (Value.str (.ofString "fdsolve.store") 291) none (Value.ref 142) Value.none 0)) #[]) :: (nat_lit 144, Obj.mk (Value.type "tuple") none (Data.seq #[]) #[]) :: (nat_lit 146, Obj.mk (Value.type "tuple") none (Data.seq #[Value.str (.ofString "self") 354, Value.str (.ofString "x") 355]) #[]) :: (nat_lit 147, Obj.mk (Value.type "tuple") none (Data.seq #[]) #[]) :: (nat_lit 149, Obj.mk (Value.type "code") none (Data.fields #[Value.str (.ofString "high") 351, Value.str (.ofString "Store.high") 352, Value.str (.ofString "/claim/cut.py") 353, Value.int 85 0, Value.int 2 0, Value.int 0 0, Value.int 0 0, Value.int 3 0, Value.ref 144, Value.bool true, Value.int 181 0, Value.ref 145, Value.none, Value.ref 146, Value.ref 147, Value.ref 148, Value.int 356 0, Value.int 85 0, Value.str (.ofString "/claim/cut.py") 357]) #[]) :: (nat_lit 150, Obj.mk (Value.type "function") none (Data.func (FuncData.mk (Str.ofString "high") (Str.ofString "Store.high") a18 (.stmts b18) s18 3 [] Value.none Value.none Value.none (Value.str (.ofString "fdsolve.store") 291) none (Value.ref 149) Value.none 0)) #[]) :: (nat_lit 151, Obj.mk (Value.type "tuple") none (Data.seq #[]) #[]) :: (nat_lit 153, Obj.mk (Value.type "tuple") none (Data.seq #[Value.str (.ofString "self") 362, Value.str (.ofString "x") 363, Value.str (.ofString "v") 364]) #[]) :: (nat_lit 154, Obj.mk (Value.type "tuple") none (Data.seq #[]) #[]) :: (nat_lit 156, Obj.mk (Value.type "code") none (Data.fields #[Value.str (.ofString "has") 359, Value.str (.ofString "Store.has") 360, Value.str (.ofString "/claim/cut.py") 361, Value.int 88 0, Value.int 3 0, Value.int 0 0, Value.int 0 0, Value.int 3 0, Value.ref 151, Value.bool true, Value.int 181 0, Value.ref 152, Value.none, Value.ref 153, Value.ref 154, Value.ref 155, Value.int 365 0, Value.int 88 0, Value.str (.ofString "/claim/cut.py") 366]) #[]) :: (nat_lit 157, Obj.mk (Value.type "function") none (Data.func (FuncData.mk (Str.ofString "has") (Str.ofString "Store.has") a19 (.stmts b19) s19 3 [] Value.none Value.none Value.none (Value.str (.ofString "fdsolve.store") 291) none (Value.ref 156) Value.none 0)) #[]) :: (nat_lit 158, Obj.mk (Value.type "tuple") none (Data.seq #[]) #[]) :: (nat_lit 160, Obj.mk (Value.type "tuple") none (Data.seq #[Value.str (.ofString "self") 371, Value.str (.ofString "x") 372]) #[]) :: (nat_lit 161, Obj.mk (Value.type "tuple") none (Data.seq #[]) #[]) :: (nat_lit 163, Obj.mk (Value.type "code") none (Data.fields #[Value.str (.ofString "is_fixed") 368, Value.str (.ofString "Store.is_fixed") 369, Value.str (.ofString "/claim/cut.py") 370, Value.int 91 0, Value.int 2 0, Value.int 0 0, Value.int 0 0, Value.int 3 0, Value.ref 158, Value.bool true, Value.int 181 0, Value.ref 159, Value.none, Value.ref 160, Value.ref 161, Value.ref 162, Value.int 373 0, Value.int 91 0, Value.str (.ofString "/claim/cut.py") 374]) #[]) :: (nat_lit 164, Obj.mk (Value.type "function") none (Data.func (FuncData.mk (Str.ofString "is_fixed") (Str.ofString "Store.is_fixed") a20 (.stmts b20) s20 3 [] Value.none Value.none Value.none (Value.str (.ofString "fdsolve.store") 291) none (Value.ref 163) Value.none 0)) #[]) :: (nat_lit 165, Obj.mk (Value.type "tuple") none (Data.seq #[]) #[]) :: (nat_lit 167, Obj.mk (Value.type "tuple") none (Data.seq #[Value.str (.ofString "self") 379, Value.str (.ofString "x") 380]) #[]) :: (nat_lit 168, Obj.mk (Value.type "tuple") none (Data.seq #[]) #[]) :: (nat_lit 170, Obj.mk (Value.type "code") none (Data.fields #[Value.str (.ofString "value") 376, Value.str (.ofString "Store.value") 377, Value.str (.ofString "/claim/cut.py") 378, Value.int 94 0, Value.int 2 0, Value.int 0 0, Value.int 0 0, Value.int 3 0, Value.ref 165, Value.bool true, Value.int 181 0, Value.ref 166, Value.none, Value.ref 167, Value.ref 168, Value.ref 169, Value.int 381 0, Value.int 94 0, Value.str (.ofString "/claim/cut.py") 382]) #[]) :: (nat_lit 171, Obj.mk (Value.type "function") none (Data.func (FuncData.mk (Str.ofString "value") (Str.ofString "Store.value") a21 (.stmts b21) s21 3 [] Value.none Value.none Value.none (Value.str (.ofString "fdsolve.store") 291) none (Value.ref 170) Value.none 0)) #[]) :: (nat_lit 172, Obj.mk (Value.type "tuple") none (Data.seq #[]) #[]) :: (nat_lit 174, Obj.mk (Value.type "tuple") none (Data.seq #[Value.str (.ofString "self") 387, Value.str (.ofString "x") 388]) #[]) :: (nat_lit 175, Obj.mk (Value.type "tuple") none (Data.seq #[]) #[]) :: (nat_lit 177, Obj.mk (Value.type "code") none (Data.fields #[Value.str (.ofString "width") 384, Value.str (.ofString "Store.width") 385, Value.str (.ofString "/claim/cut.py") 386, Value.int 97 0, Value.int 2 0, Value.int 0 0, Value.int 0 0, Value.int 3 0, Value.ref 172, Value.bool true, Value.int 181 0, Value.ref 173, Value.none, Value.ref 174, Value.ref 175, Value.ref 176, Value.int 389 0, Value.int 97 0, Value.str (.ofString "/claim/cut.py") 390]) #[]) :: (nat_lit 178, Obj.mk (Value.type "function") none (Data.func (FuncData.mk (Str.ofString "width") (Str.ofString "Store.width") a22 (.stmts b22) s22 3 [] Value.none Value.none Value.none (Value.str (.ofString "fdsolve.store") 291) none (Value.ref 177) Value.none 0)) #[]) :: (nat_lit 179, Obj.mk (Value.type "tuple") none (Data.seq #[]) #[]) :: (nat_lit 181, Obj.mk (Value.type "tuple") none (Data.seq #[Value.str (.ofString "self") 395, Value.str (.ofString "literal") 396]) #[]) :: (nat_lit 182, Obj.mk (Value.type "tuple") none (Data.seq #[]) #[]) :: (nat_lit 184, Obj.mk (Value.type "code") none (Data.fields #[Value.str (.ofString "holds") 392, Value.str (.ofString "Store.holds") 393, Value.str (.ofString "/claim/cut.py") 394, Value.int 100 0, Value.int 2 0, Value.int 0 0, Value.int 0 0, Value.int 3 0, Value.ref 179, Value.bool true, Value.int 181 0, Value.ref 180, Value.none, Value.ref 181, Value.ref 182, Value.ref 183, Value.int 397 0, Value.int 100 0, Value.str (.ofString "/claim/cut.py") 398]) #[]) :: (nat_lit 185, Obj.mk (Value.type "function") none (Data.func (FuncData.mk (Str.ofString "holds") (Str.ofString "Store.holds") a23 (.stmts b23) s23 3 [] Value.none Value.none Value.none (Value.str (.ofString "fdsolve.store") 291) none (Value.ref 184) Value.none 0)) #[]) :: (nat_lit 186, Obj.mk (Value.type "tuple") none (Data.seq #[]) #[]) :: (nat_lit 188, Obj.mk (Value.type "tuple") none (Data.seq #[Value.str (.ofString "self") 403, Value.str (.ofString "literal") 404, Value.str (.ofString "reasons") 405, Value.str (.ofString "speaker") 406, Value.str (.ofString "x") 407, Value.str (.ofString "old") 408, Value.str (.ofString "fresh") 409]) #[]) :: (nat_lit 189, Obj.mk (Value.type "tuple") none (Data.seq #[]) #[]) :: (nat_lit 191, Obj.mk (Value.type "code") none (Data.fields #[Value.str (.ofString "enter") 400, Value.str (.ofString "Store.enter") 401, Value.str (.ofString "/claim/cut.py") 402, Value.int 103 0, Value.int 4 0, Value.int 0 0, Value.int 0 0, Value.int 3 0, Value.ref 186, Value.bool true, Value.int 181 0, Value.ref 187, Value.none, Value.ref 188, Value.ref 189, Value.ref 190, Value.int 410 0, Value.int 103 0, Value.str (.ofString "/claim/cut.py") 411]) #[]) :: (nat_lit 192, Obj.mk (Value.type "function") none (Data.func (FuncData.mk (Str.ofString "enter") (Str.ofString "Store.enter") a24 (.stmts b24) s24 3 [] Value.none Value.none Value.none (Value.str (.ofString "fdsolve.store") 291) none (Value.ref 191) Value.none 0)) #[]) :: (nat_lit 193, Obj.mk (Value.type "tuple") none (Data.seq #[]) #[]) :: (nat_lit 195, Obj.mk (Value.type "tuple") none (Data.seq #[Value.str (.ofString "self") 416, Value.str (.ofString "literal") 417, Value.str (.ofString "reasons") 418]) #[]) :: (nat_lit 196, Obj.mk (Value.type "tuple") none (Data.seq #[]) #[]) :: (nat_lit 198, Obj.mk (Value.type "code") none (Data.fields #[Value.str (.ofString "strike") 413, Value.str (.ofString "Store.strike") 414, Value.str (.ofString "/claim/cut.py") 415, Value.int 116 0, Value.int 3 0, Value.int 0 0, Value.int 0 0, Value.int 3 0, Value.ref 193, Value.bool true, Value.int 181 0, Value.ref 194, Value.none, Value.ref 195, Value.ref 196, Value.ref 197, Value.int 419 0, Value.int 116 0, Value.str (.ofString "/claim/cut.py") 420]) #[]) :: (nat_lit 199, Obj.mk (Value.type "function") none (Data.func (FuncData.mk (Str.ofString "strike") (Str.ofString "Store.strike") a25 (.stmts b25) s25 3 [] Value.none Value.none Value.none (Value.str (.ofString "fdsolve.store") 291) none (Value.ref 198) Value.none 0)) #[]) :: (nat_lit 200, Obj.mk (Value.type "tuple") none (Data.seq #[]) #[]) :: (nat_lit 202, Obj.mk (Value.type "tuple") none (Data.seq #[Value.str (.ofString "self") 425, Value.str (.ofString "literal") 426]) #[]) :: (nat_lit 203, Obj.mk (Value.type "tuple") none (Data.seq #[]) #[]) :: (nat_lit 205, Obj.mk (Value.type "code") none (Data.fields #[Value.str (.ofString "decide") 422, Value.str (.ofString "Store.decide") 423, Value.str (.ofString "/claim/cut.py") 424, Value.int 119 0, Value.int 2 0, Value.int 0 0, Value.int 0 0, Value.int 3 0, Value.ref 200, Value.bool true, Value.int 181 0, Value.ref 201, Value.none, Value.ref 202, Value.ref 203, Value.ref 204, Value.int 427 0, Value.int 119 0, Value.str (.ofString "/claim/cut.py") 428]) #[]) :: (nat_lit 206, Obj.mk (Value.type "function") none (Data.func (FuncData.mk (Str.ofString "decide") (Str.ofString "Store.decide") a26 (.stmts b26) s26 3 [] Value.none Value.none Value.none (Value.str (.ofString "fdsolve.store") 291) none (Value.ref 205) Value.none 0)) #[]) :: (nat_lit 207, Obj.mk (Value.type "tuple") none (Data.seq #[]) #[]) :: (nat_lit 209, Obj.mk (Value.type "tuple") none (Data.seq #[Value.str (.ofString "self") 433, Value.str (.ofString "reasons") 434]) #[]) :: (nat_lit 210, Obj.mk (Value.type "tuple") none (Data.seq #[]) #[]) :: (nat_lit 212, Obj.mk (Value.type "code") none (Data.fields #[Value.str (.ofString "fail") 430, Value.str (.ofString "Store.fail") 431, Value.str (.ofString "/claim/cut.py") 432, Value.int 122 0, Value.int 2 0, Value.int 0 0, Value.int 0 0, Value.int 3 0, Value.ref 207, Value.bool true, Value.int 181 0, Value.ref 208, Value.none, Value.ref 209, Value.ref 210, Value.ref 211, Value.int 435 0, Value.int 122 0, Value.str (.ofString "/claim/cut.py") 436]) #[]) :: (nat_lit 213, Obj.mk (Value.type "function") none (Data.func (FuncData.mk (Str.ofString "fail") (Str.ofString "Store.fail") a27 (.stmts b27) s27 3 [] Value.none Value.none Value.none (Value.str (.ofString "fdsolve.store") 291) none (Value.ref 212) Value.none 0)) #[]) :: (nat_lit 214, Obj.mk (Value.type "tuple") none (Data.seq #[]) #[]) :: (nat_lit 216, Obj.mk (Value.type "tuple") none (Data.seq #[Value.str (.ofString "self") 441]) #[]) :: (nat_lit 217, Obj.mk (Value.type "tuple") none (Data.seq #[]) #[]) :: (nat_lit 219, Obj.mk (Value.type "code") none (Data.fields #[Value.str (.ofString "push") 438, Value.str (.ofString "Store.push") 439, Value.str (.ofString "/claim/cut.py") 440, Value.int 127 0, Value.int 1 0, Value.int 0 0, Value.int 0 0, Value.int 3 0, Value.ref 214, Value.bool true, Value.int 181 0, Value.ref 215, Value.none, Value.ref 216, Value.ref 217, Value.ref 218, Value.int 442 0, Value.int 127 0, Value.str (.ofString "/claim/cut.py") 443]) #[]) :: (nat_lit 220, Obj.mk (Value.type "function") none (Data.func (FuncData.mk (Str.ofString "push") (Str.ofString "Store.push") a28 (.stmts b28) s28 3 [] Value.none Value.none Value.none (Value.str (.ofString "fdsolve.store") 291) none (Value.ref 219) Value.none 0)) #[]) :: (nat_lit 221, Obj.mk (Value.type "tuple") none (Data.seq #[]) #[]) :: (nat_lit 223, Obj.mk (Value.type "tuple") none (Data.seq #[Value.str (.ofString "self") 448, Value.str (.ofString "n") 449, Value.str (.ofString "mark") 450, Value.str (.ofString "entry") 451]) #[]) :: (nat_lit 224, Obj.mk (Value.type "tuple") none (Data.seq #[]) #[]) :: (nat_lit 226, Obj.mk (Value.type "code") none (Data.fields #[Value.str (.ofString "pop") 445, Value.str (.ofString "Store.pop") 446, Value.str (.ofString "/claim/cut.py") 447, Value.int 130 0, Value.int 2 0, Value.int 0 0, Value.int 0 0, Value.int 3 0, Value.ref 221, Value.bool true, Value.int 181 0, Value.ref 222, Value.none, Value.ref 223, Value.ref 224, Value.ref 225, Value.int 452 0, Value.int 130 0, Value.str (.ofString "/claim/cut.py") 453]) #[]) :: (nat_lit 227, Obj.mk (Value.type "function") none (Data.func (FuncData.mk (Str.ofString "pop") (Str.ofString "Store.pop") a29 (.stmts b29) s29 3 [] Value.none Value.none Value.none (Value.str (.ofString "fdsolve.store") 291) none (Value.ref 226) Value.none 0)) #[]) :: (nat_lit 228, Obj.mk (Value.type "tuple") none (Data.seq #[]) #[]) :: (nat_lit 230, Obj.mk (Value.type "tuple") none (Data.seq #[Value.str (.ofString "self") 458]) #[]) :: (nat_lit 231, Obj.mk (Value.type "tuple") none (Data.seq #[]) #[]) :: (nat_lit 233, Obj.mk (Value.type "code") none (Data.fields #[Value.str (.ofString "depth") 455, Value.str (.ofString "Store.depth") 456, Value.str (.ofString "/claim/cut.py") 457, Value.int 142 0, Value.int 1 0, Value.int 0 0, Value.int 0 0, Value.int 3 0, Value.ref 228, Value.bool true, Value.int 181 0, Value.ref 229, Value.none, Value.ref 230, Value.ref 231, Value.ref 232, Value.int 459 0, Value.int 142 0, Value.str (.ofString "/claim/cut.py") 460]) #[]) :: (nat_lit 234, Obj.mk (Value.type "function") none (Data.func (FuncData.mk (Str.ofString "depth") (Str.ofString "Store.depth") a30 (.stmts b30) s30 3 [] Value.none Value.none Value.none (Value.str (.ofString "fdsolve.store") 291) none (Value.ref 233) Value.none 0)) #[]) :: (nat_lit 235, Obj.mk (Value.type "tuple") none (Data.seq #[]) #[]) :: (nat_lit 237, Obj.mk (Value.type "tuple") none (Data.seq #[Value.str (.ofString "self") 465]) #[]) :: (nat_lit 238, Obj.mk (Value.type "tuple") none (Data.seq #[]) #[]) :: (nat_lit 240, Obj.mk (Value.type "code") none (Data.fields #[Value.str (.ofString "changed") 462, Value.str (.ofString "Store.changed") 463, Value.str (.ofString "/claim/cut.py") 464, Value.int 145 0, Value.int 1 0, Value.int 0 0, Value.int 0 0, Value.int 3 0, Value.ref 235, Value.bool true, Value.int 181 0, Value.ref 236, Value.none, Value.ref 237, Value.ref 238, Value.ref 239, Value.int 466 0, Value.int 145 0, Value.str (.ofString "/claim/cut.py") 467]) #[]) :: (nat_lit 241, Obj.mk (Value.type "function") none (Data.func (FuncData.mk (Str.ofString "changed") (Str.ofString "Store.changed") a31 (.stmts b31) s31 3 [] Value.none Value.none Value.none (Value.str (.ofString "fdsolve.store") 291) none (Value.ref 240) Value.none 0)) #[]) :: (nat_lit 242, Obj.mk (Value.type "tuple") none (Data.seq #[Value.str (.ofString "clash") 469, Value.str (.ofString "domains") 470, Value.str (.ofString "firsts") 471, Value.str (.ofString "is_failed") 472, Value.str (.ofString "marks") 473, Value.str (.ofString "news") 474, Value.str (.ofString "speaker") 475, Value.str (.ofString "trail") 476]) #[]) :: (nat_lit 243, Obj.mk (Value.type "dict") none (Data.dict #[DictEntry.mk (PyData.keyHash P (.ofString "__module__")) (Value.str (.ofString "__module__") 300) (Value.str (.ofString "fdsolve.store") 291), DictEntry.mk (PyData.keyHash P (.ofString "__firstlineno__")) (Value.str (.ofString "__firstlineno__") 304) (Value.int 54 303), DictEntry.mk (PyData.keyHash P (.ofString "__init__")) (Value.str (.ofString "__init__") 311) (Value.ref 108), DictEntry.mk (PyData.keyHash P (.ofString "new_var")) (Value.str (.ofString "new_var") 319) (Value.ref 115), DictEntry.mk (PyData.keyHash P (.ofString "size")) (Value.str (.ofString "size") 326) (Value.ref 122), DictEntry.mk (PyData.keyHash P (.ofString "dom")) (Value.str (.ofString "dom") 334) (Value.ref 129), DictEntry.mk (PyData.keyHash P (.ofString "initial")) (Value.str (.ofString "initial") 342) (Value.ref 136), DictEntry.mk (PyData.keyHash P (.ofString "low")) (Value.str (.ofString "low") 350) (Value.ref 143), DictEntry.mk (PyData.keyHash P (.ofString "high")) (Value.str (.ofString "high") 358) (Value.ref 150), DictEntry.mk (PyData.keyHash P (.ofString "has")) (Value.str (.ofString "has") 367) (Value.ref 157), DictEntry.mk (PyData.keyHash P (.ofString "is_fixed")) (Value.str (.ofString "is_fixed") 375) (Value.ref 164), DictEntry.mk (PyData.keyHash P (.ofString "value")) (Value.str (.ofString "value") 383) (Value.ref 171), DictEntry.mk (PyData.keyHash P (.ofString "width")) (Value.str (.ofString "width") 391) (Value.ref 178), DictEntry.mk (PyData.keyHash P (.ofString "holds")) (Value.str (.ofString "holds") 399) (Value.ref 185), DictEntry.mk (PyData.keyHash P (.ofString "enter")) (Value.str (.ofString "enter") 412) (Value.ref 192), DictEntry.mk (PyData.keyHash P (.ofString "strike")) (Value.str (.ofString "strike") 421) (Value.ref 199), DictEntry.mk (PyData.keyHash P (.ofString "decide")) (Value.str (.ofString "decide") 429) (Value.ref 206), DictEntry.mk (PyData.keyHash P (.ofString "fail")) (Value.str (.ofString "fail") 437) (Value.ref 213), DictEntry.mk (PyData.keyHash P (.ofString "push")) (Value.str (.ofString "push") 444) (Value.ref 220), DictEntry.mk (PyData.keyHash P (.ofString "pop")) (Value.str (.ofString "pop") 454) (Value.ref 227), DictEntry.mk (PyData.keyHash P (.ofString "depth")) (Value.str (.ofString "depth") 461) (Value.ref 234), DictEntry.mk (PyData.keyHash P (.ofString "changed")) (Value.str (.ofString "changed") 468) (Value.ref 241), DictEntry.mk (PyData.keyHash P (.ofString "__static_attributes__")) (Value.str (.ofString "__static_attributes__") 477) (Value.ref 242), DictEntry.mk (PyData.keyHash P (.ofString "__dict__")) (Value.str (.ofString "__dict__") 479) (Value.ref 245), DictEntry.mk (PyData.keyHash P (.ofString "__weakref__")) (Value.str (.ofString "__weakref__") 481) (Value.ref 246), DictEntry.mk (PyData.keyHash P (.ofString "__doc__")) (Value.str (.ofString "__doc__") 482) Value.none] 4) #[]) :: (nat_lit 244, Obj.mk (Value.type "type") none (Data.cls (ClassData.mk (Str.ofString "Store") [Value.type "object"] [Value.ref 244, Value.type "object"] 243 (Str.ofString "Store") true [] [] false none false)) #[none, none, some (Value.str (.ofString "Store") 293), some (Value.str (.ofString "Store") 301), some (Value.builtin "object.__new__"), some (Value.bool true)]) :: (nat_lit 245, Obj.mk (Value.type "getset_descriptor") none (Data.fields #[Value.str (.ofString "__dict__") 478, Value.ref 244, Value.builtin "function.__dict__", Value.builtin "function.__dict__#set"]) #[]) :: (nat_lit 246, Obj.mk (Value.type "getset_descriptor") none (Data.fields #[Value.str (.ofString "__weakref__") 480, Value.ref 244, Value.builtin "ExceptionGroup.__weakref__", Value.none]) #[]) :: (nat_lit 256, Obj.mk (Value.type "tuple") none (Data.seq #[]) #[]) :: (nat_lit 258, Obj.mk (Value.type "tuple") none (Data.seq #[Value.str (.ofString "self") 500, Value.str (.ofString "scope") 501, Value.str (.ofString "strength") 502]) #[]) :: (nat_lit 259, Obj.mk (Value.type "tuple") none (Data.seq #[]) #[]) :: (nat_lit 261, Obj.mk (Value.type "code") none (Data.fields #[Value.str (.ofString "__init__") 497, Value.str (.ofString "Propagator.__init__") 498, Value.str (.ofString "/claim/cut.py") 499, Value.int 149 0, Value.int 3 0, Value.int 0 0, Value.int 0 0, Value.int 3 0, Value.ref 256, Value.bool true, Value.int 181 0, Value.ref 257, Value.none, Value.ref 258, Value.ref 259, Value.ref 260, Value.int 503 0, Value.int 149 0, Value.str (.ofString "/claim/cut.py") 504]) #[]) :: (nat_lit 262, Obj.mk (Value.type "function") none (Data.func (FuncData.mk (Str.ofString "__init__") (Str.ofString "Propagator.__init__") a32 (.stmts b32) s32 3 [] Value.none Value.none Value.none (Value.str (.ofString "fdsolve.store") 291) none (Value.ref 261) Value.none 0)) #[]) :: (nat_lit 263, Obj.mk (Value.type "tuple") none (Data.seq #[]) #[]) :: (nat_lit 265, Obj.mk (Value.type "tuple") none (Data.seq #[Value.str (.ofString "self") 509, Value.str (.ofString "store") 510]) #[]) :: (nat_lit 266, Obj.mk (Value.type "tuple") none (Data.seq #[]) #[]) :: (nat_lit 268, Obj.mk (Value.type "code") none (Data.fields #[Value.str (.ofString "propagate") 506, Value.str (.ofString "Propagator.propagate") 507, Value.str (.ofString "/claim/cut.py") 508, Value.int 154 0, Value.int 2 0, Value.int 0 0, Value.int 0 0, Value.int 3 0, Value.ref 263, Value.bool true, Value.int 181 0, Value.ref 264, Value.none, Value.ref 265, Value.ref 266, Value.ref 267, Value.int 511 0, Value.int 154 0, Value.str (.ofString "/claim/cut.py") 512]) #[]) :: (nat_lit 269, Obj.mk (Value.type "function") none (Data.func (FuncData.mk (Str.ofString "propagate") (Str.ofString "Propagator.propagate") a33 (.stmts b33) s33 3 [] Value.none Value.none Value.none (Value.str (.ofString "fdsolve.store") 291) none (Value.ref 268) Value.none 0)) #[]) :: (nat_lit 270, Obj.mk (Value.type "tuple") none (Data.seq #[]) #[]) :: (nat_lit 272, Obj.mk (Value.type "tuple") none (Data.seq #[Value.str (.ofString "self") 517, Value.str (.ofString "values") 518]) #[]) :: (nat_lit 273, Obj.mk (Value.type "tuple") none (Data.seq #[]) #[]) :: (nat_lit 275, Obj.mk (Value.type "code") none (Data.fields #[Value.str (.ofString "check") 514, Value.str (.ofString "Propagator.check") 515, Value.str (.ofString "/claim/cut.py") 516, Value.int 157 0, Value.int 2 0, Value.int 0 0, Value.int 0 0, Value.int 3 0, Value.ref 270, Value.bool true, Value.int 181 0, Value.ref 271, Value.none, Value.ref 272, Value.ref 273, Value.ref 274, Value.int 519 0, Value.int 157 0, Value.str (.ofString "/claim/cut.py") 520]) #[]) :: (nat_lit 276, Obj.mk (Value.type "function") none (Data.func (FuncData.mk (Str.ofString "check") (Str.ofString "Propagator.check") a34 (.stmts b34) s34 3 [] Value.none Value.none Value.none (Value.str (.ofString "fdsolve.store") 291) none (Value.ref 275) Value.none 0)) #[]) :: (nat_lit 277, Obj.mk (Value.type "tuple") none (Data.seq #[]) #[]) :: (nat_lit 279, Obj.mk (Value.type "tuple") none (Data.seq #[Value.str (.ofString "self") 525]) #[]) :: (nat_lit 280, Obj.mk (Value.type "tuple") none (Data.seq #[]) #[]) :: (nat_lit 282, Obj.mk (Value.type "code") none (Data.fields #[Value.str (.ofString "told") 522, Value.str (.ofString "Propagator.told") 523, Value.str (.ofString "/claim/cut.py") 524, Value.int 160 0, Value.int 1 0, Value.int 0 0, Value.int 0 0, Value.int 3 0, Value.ref 277, Value.bool true, Value.int 181 0, Value.ref 278, Value.none, Value.ref 279, Value.ref 280, Value.ref 281, Value.int 526 0, Value.int 160 0, Value.str (.ofString "/claim/cut.py") 527]) #[]) :: (nat_lit 283, Obj.mk (Value.type "function") none (Data.func (FuncData.mk (Str.ofString "told") (Str.ofString "Propagator.told") a35 (.stmts b35) s35 3 [] Value.none Value.none Value.none (Value.str (.ofString "fdsolve.store") 291) none (Value.ref 282) Value.none 0)) #[]) :: (nat_lit 284, Obj.mk (Value.type "tuple") none (Data.seq #[Value.str (.ofString "number") 529, Value.str (.ofString "scope") 530, Value.str (.ofString "strength") 531]) #[]) :: (nat_lit 285, Obj.mk (Value.type "dict") none (Data.dict #[DictEntry.mk (PyData.keyHash P (.ofString "__module__")) (Value.str (.ofString "__module__") 492) (Value.str (.ofString "fdsolve.store") 291), DictEntry.mk (PyData.keyHash P (.ofString "__firstlineno__")) (Value.str (.ofString "__firstlineno__") 496) (Value.int 147 495), DictEntry.mk (PyData.keyHash P (.ofString "__init__")) (Value.str (.ofString "__init__") 505) (Value.ref 262), DictEntry.mk (PyData.keyHash P (.ofString "propagate")) (Value.str (.ofString "propagate") 513) (Value.ref 269), DictEntry.mk (PyData.keyHash P (.ofString "check")) (Value.str (.ofString "check") 521) (Value.ref 276), DictEntry.mk (PyData.keyHash P (.ofString "told")) (Value.str (.ofString "told") 528) (Value.ref 283), DictEntry.mk (PyData.keyHash P (.ofString "__static_attributes__")) (Value.str (.ofString "__static_attributes__") 532) (Value.ref 284), DictEntry.mk (PyData.keyHash P (.ofString "__dict__")) (Value.str (.ofString "__dict__") 534) (Value.ref 287), DictEntry.mk (PyData.keyHash P (.ofString "__weakref__")) (Value.str (.ofString "__weakref__") 536) (Value.ref 288), DictEntry.mk (PyData.keyHash P (.ofString "__doc__")) (Value.str (.ofString "__doc__") 537) Value.none] 4) #[]) :: (nat_lit 286, Obj.mk (Value.type "type") none (Data.cls (ClassData.mk (Str.ofString "Propagator") [Value.type "object"] [Value.ref 286, Value.type "object"] 285 (Str.ofString "Propagator") true [] [Value.ref 364] false none false)) #[none, none, some (Value.str (.ofString "Propagator") 485), some (Value.str (.ofString "Propagator") 493), some (Value.builtin "object.__new__"), some (Value.bool true)]) :: (nat_lit 287, Obj.mk (Value.type "getset_descriptor") none (Data.fields #[Value.str (.ofString "__dict__") 533, Value.ref 286, Value.builtin "function.__dict__", Value.builtin "function.__dict__#set"]) #[]) :: (nat_lit 288, Obj.mk (Value.type "getset_descriptor") none (Data.fields #[Value.str (.ofString "__weakref__") 535, Value.ref 286, Value.builtin "ExceptionGroup.__weakref__", Value.none]) #[]) :: (nat_lit 291, Obj.mk (Value.type "tuple") none (Data.seq #[]) #[]) :: (nat_lit 294, Obj.mk (Value.type "code") none (Data.fields #[Value.str (.ofString "rows_of") 542, Value.str (.ofString "rows_of") 543, Value.str (.ofString "/claim/cut.py") 544, Value.int 163 0, Value.int 2 0, Value.int 0 0, Value.int 0 0, Value.int 3 0, Value.ref 291, Value.bool true, Value.int 181 0, Value.ref 292, Value.none, Value.none, Value.none, Value.ref 293, Value.int 545 0, Value.int 163 0, Value.str (.ofString "/claim/cut.py") 546]) #[]) :: (nat_lit 295, Obj.mk (Value.type "function") none (Data.func (FuncData.mk (Str.ofString "rows_of") (Str.ofString "rows_of") a36 (.stmts b36) s36 3 [] Value.none Value.none Value.none (Value.str (.ofString "fdsolve.linear") 540) none (Value.ref 294) Value.none 0)) #[]) :: (nat_lit 296, Obj.mk (Value.type "tuple") none (Data.seq #[]) #[]) :: (nat_lit 298, Obj.mk (Value.type "tuple") none (Data.seq #[Value.str (.ofString "store") 551, Value.str (.ofString "coef") 552, Value.str (.ofString "x") 553]) #[]) :: (nat_lit 299, Obj.mk (Value.type "tuple") none (Data.seq #[]) #[]) :: (nat_lit 301, Obj.mk (Value.type "code") none (Data.fields #[Value.str (.ofString "least_term") 548, Value.str (.ofString "least_term") 549, Value.str (.ofString "/claim/cut.py") 550, Value.int 168 0, Value.int 3 0, Value.int 0 0, Value.int 0 0, Value.int 3 0, Value.ref 296, Value.bool true, Value.int 181 0, Value.ref 297, Value.none, Value.ref 298, Value.ref 299, Value.ref 300, Value.int 554 0, Value.int 168 0, Value.str (.ofString "/claim/cut.py") 555]) #[]) :: (nat_lit 302, Obj.mk (Value.type "function") none (Data.func (FuncData.mk (Str.ofString "least_term") (Str.ofString "least_term") a37 (.stmts b37) s37 3 [] Value.none Value.none Value.none (Value.str (.ofString "fdsolve.linear") 540) none (Value.ref 301) Value.none 0)) #[]) :: (nat_lit 303, Obj.mk (Value.type "tuple") none (Data.seq #[]) #[]) :: (nat_lit 305, Obj.mk (Value.type "tuple") none (Data.seq #[Value.str (.ofString "store") 560, Value.str (.ofString "rows") 561, Value.str (.ofString "skipped") 562, Value.str (.ofString "found") 563, Value.str (.ofString "place") 564, Value.str (.ofString "coef") 565, Value.str (.ofString "x") 566]) #[]) :: (nat_lit 306, Obj.mk (Value.type "tuple") none (Data.seq #[]) #[]) :: (nat_lit 308, Obj.mk (Value.type "code") none (Data.fields #[Value.str (.ofString "least_reasons") 557, Value.str (.ofString "least_reasons") 558, Value.str (.ofString "/claim/cut.py") 559, Value.int 170 0, Value.int 3 0, Value.int 0 0, Value.int 0 0, Value.int 3 0, Value.ref 303, Value.bool true, Value.int 181 0, Value.ref 304, Value.none, Value.ref 305, Value.ref 306, Value.ref 307, Value.int 567 0, Value.int 170 0, Value.str (.ofString "/claim/cut.py") 568]) #[]) :: (nat_lit 309, Obj.mk (Value.type "function") none (Data.func (FuncData.mk (Str.ofString "least_reasons") (Str.ofString "least_reasons") a38 (.stmts b38) s38 3 [] Value.none Value.none Value.none (Value.str (.ofString "fdsolve.linear") 540) none (Value.ref 308) Value.none 0)) #[]) :: (nat_lit 310, Obj.mk (Value.type "tuple") none (Data.seq #[]) #[]) :: (nat_lit 313, Obj.mk (Value.type "code") none (Data.fields #[Value.str (.ofString "strike_le") 570, Value.str (.ofString "strike_le") 571, Value.str (.ofString "/claim/cut.py") 572, Value.int 180 0, Value.int 3 0, Value.int 0 0, Value.int 0 0, Value.int 3 0, Value.ref 310, Value.bool true, Value.int 181 0, Value.ref 311, Value.none, Value.none, Value.none, Value.ref 312, Value.int 573 0, Value.int 180 0, Value.str (.ofString "/claim/cut.py") 574]) #[]) :: (nat_lit 314, Obj.mk (Value.type "function") none (Data.func (FuncData.mk (Str.ofString "strike_le") (Str.ofString "strike_le") a39 (.stmts b39) s39 3 [] Value.none Value.none Value.none (Value.str (.ofString "fdsolve.linear") 540) none (Value.ref 313) Value.none 0)) #[]) :: (nat_lit 315, Obj.mk (Value.type "tuple") none (Data.seq #[]) #[]) :: (nat_lit 317, Obj.mk (Value.type "tuple") none (Data.seq #[Value.str (.ofString "rows") 579, Value.str (.ofString "found") 580, Value.str (.ofString "coef") 581, Value.str (.ofString "x") 582, Value.str (.ofString "one") 583, Value.str (.ofString "other") 584]) #[]) :: (nat_lit 318, Obj.mk (Value.type "tuple") none (Data.seq #[]) #[]) :: (nat_lit 320, Obj.mk (Value.type "code") none (Data.fields #[Value.str (.ofString "divisor_of") 576, Value.str (.ofString "divisor_of") 577, Value.str (.ofString "/claim/cut.py") 578, Value.int 190 0, Value.int 1 0, Value.int 0 0, Value.int 0 0, Value.int 3 0, Value.ref 315, Value.bool true, Value.int 181 0, Value.ref 316, Value.none, Value.ref 317, Value.ref 318, Value.ref 319, Value.int 585 0, Value.int 190 0, Value.str (.ofString "/claim/cut.py") 586]) #[]) :: (nat_lit 321, Obj.mk (Value.type "function") none (Data.func (FuncData.mk (Str.ofString "divisor_of") (Str.ofString "divisor_of") a40 (.stmts b40) s40 3 [] Value.none Value.none Value.none (Value.str (.ofString "fdsolve.linear") 540) none (Value.ref 320) Value.none 0)) #[]) :: (nat_lit 322, Obj.mk (Value.type "tuple") none (Data.seq #[Value.ref 286]) #[]) :: (nat_lit 325, Obj.mk (Value.type "cell") none (Data.cell (some (Value.ref 364))) #[]) :: (nat_lit 330, Obj.mk (Value.type "tuple") none (Data.seq #[Value.ref 325]) #[]) :: (nat_lit 331, Obj.mk (Value.type "tuple") none (Data.seq #[Value.str (.ofString "__class__") 603]) #[]) :: (nat_lit 333, Obj.mk (Value.type "tuple") none (Data.seq #[Value.str (.ofString "self") 604, Value.str (.ofString "coefs") 605, Value.str (.ofString "scope") 606, Value.str (.ofString "c") 607]) #[]) :: (nat_lit 334, Obj.mk (Value.type "tuple") none (Data.seq #[]) #[]) :: (nat_lit 336, Obj.mk (Value.type "code") none (Data.fields #[Value.str (.ofString "__init__") 600, Value.str (.ofString "LinearEq.__init__") 601, Value.str (.ofString "/claim/cut.py") 602, Value.int 200 0, Value.int 4 0, Value.int 0 0, Value.int 0 0, Value.int 3 0, Value.ref 331, Value.bool true, Value.int 181 0, Value.ref 332, Value.none, Value.ref 333, Value.ref 334, Value.ref 335, Value.int 608 0, Value.int 200 0, Value.str (.ofString "/claim/cut.py") 609]) #[]) :: (nat_lit 337, Obj.mk (Value.type "function") none (Data.func (FuncData.mk (Str.ofString "__init__") (Str.ofString "LinearEq.__init__") a41 (.stmts b41) s41 3 [(Str.ofString "__class__", 325)] Value.none Value.none Value.none (Value.str (.ofString "fdsolve.linear") 540) none (Value.ref 336) (Value.ref 330) 0)) #[]) :: (nat_lit 338, Obj.mk (Value.type "tuple") none (Data.seq #[]) #[]) :: (nat_lit 341, Obj.mk (Value.type "code") none (Data.fields #[Value.str (.ofString "bounds") 611, Value.str (.ofString "LinearEq.bounds") 612, Value.str (.ofString "/claim/cut.py") 613, Value.int 207 0, Value.int 2 0, Value.int 0 0, Value.int 0 0, Value.int 3 0, Value.ref 338, Value.bool true, Value.int 181 0, Value.ref 339, Value.none, Value.none, Value.none, Value.ref 340, Value.int 614 0, Value.int 207 0, Value.str (.ofString "/claim/cut.py") 615]) #[]) :: (nat_lit 342, Obj.mk (Value.type "function") none (Data.func (FuncData.mk (Str.ofString "bounds") (Str.ofString "LinearEq.bounds") a42 (.stmts b42) s42 3 [] Value.none Value.none Value.none (Value.str (.ofString "fdsolve.linear") 540) none (Value.ref 341) Value.none 0)) #[]) :: (nat_lit 343, Obj.mk (Value.type "tuple") none (Data.seq #[]) #[]) :: (nat_lit 346, Obj.mk (Value.type "code") none (Data.fields #[Value.str (.ofString "propagate") 617, Value.str (.ofString "LinearEq.propagate") 618, Value.str (.ofString "/claim/cut.py") 619, Value.int 210 0, Value.int 2 0, Value.int 0 0, Value.int 0 0, Value.int 3 0, Value.ref 343, Value.bool true, Value.int 181 0, Value.ref 344, Value.none, Value.none, Value.none, Value.ref 345, Value.int 620 0, Value.int 210 0, Value.str (.ofString "/claim/cut.py") 621]) #[]) :: (nat_lit 347, Obj.mk (Value.type "function") none (Data.func (FuncData.mk (Str.ofString "propagate") (Str.ofString "LinearEq.propagate") a43 (.stmts b43) s43 3 [] Value.none Value.none Value.none (Value.str (.ofString "fdsolve.linear") 540) none (Value.ref 346) Value.none 0)) #[]) :: (nat_lit 348, Obj.mk (Value.type "tuple") none (Data.seq #[]) #[]) :: (nat_lit 350, Obj.mk (Value.type "tuple") none (Data.seq #[Value.str (.ofString "self") 626, Value.str (.ofString "values") 627]) #[]) :: (nat_lit 351, Obj.mk (Value.type "tuple") none (Data.seq #[]) #[]) :: (nat_lit 353, Obj.mk (Value.type "code") none (Data.fields #[Value.str (.ofString "check") 623, Value.str (.ofString "LinearEq.check") 624, Value.str (.ofString "/claim/cut.py") 625, Value.int 220 0, Value.int 2 0, Value.int 0 0, Value.int 0 0, Value.int 3 0, Value.ref 348, Value.bool true, Value.int 181 0, Value.ref 349, Value.none, Value.ref 350, Value.ref 351, Value.ref 352, Value.int 628 0, Value.int 220 0, Value.str (.ofString "/claim/cut.py") 629]) #[]) :: (nat_lit 354, Obj.mk (Value.type "function") none (Data.func (FuncData.mk (Str.ofString "check") (Str.ofString "LinearEq.check") a44 (.stmts b44) s44 3 [] Value.none Value.none Value.none (Value.str (.ofString "fdsolve.linear") 540) none (Value.ref 353) Value.none 0)) #[]) :: (nat_lit 355, Obj.mk (Value.type "tuple") none (Data.seq #[]) #[]) :: (nat_lit 357, Obj.mk (Value.type "tuple") none (Data.seq #[Value.str (.ofString "self") 634]) #[]) :: (nat_lit 358, Obj.mk (Value.type "tuple") none (Data.seq #[]) #[]) :: (nat_lit 360, Obj.mk (Value.type "code") none (Data.fields #[Value.str (.ofString "told") 631, Value.str (.ofString "LinearEq.told") 632, Value.str (.ofString "/claim/cut.py") 633, Value.int 223 0, Value.int 1 0, Value.int 0 0, Value.int 0 0, Value.int 3 0, Value.ref 355, Value.bool true, Value.int 181 0, Value.ref 356, Value.none, Value.ref 357, Value.ref 358, Value.ref 359, Value.int 635 0, Value.int 223 0, Value.str (.ofString "/claim/cut.py") 636]) #[]) :: (nat_lit 361, Obj.mk (Value.type "function") none (Data.func (FuncData.mk (Str.ofString "told") (Str.ofString "LinearEq.told") a45 (.stmts b45) s45 3 [] Value.none Value.none Value.none (Value.str (.ofString "fdsolve.linear") 540) none (Value.ref 360) Value.none 0)) #[]) :: (nat_lit 362, Obj.mk (Value.type "tuple") none (Data.seq #[Value.str (.ofString "c") 638, Value.str (.ofString "coefs") 639, Value.str (.ofString "divisor") 640, Value.str (.ofString "rows") 641]) #[]) :: (nat_lit 363, Obj.mk (Value.type "dict") none (Data.dict #[DictEntry.mk (PyData.keyHash P (.ofString "__module__")) (Value.str (.ofString "__module__") 595) (Value.str (.ofString "fdsolve.linear") 540), DictEntry.mk (PyData.keyHash P (.ofString "__firstlineno__")) (Value.str (.ofString "__firstlineno__") 599) (Value.int 198 598), DictEntry.mk (PyData.keyHash P (.ofString "__init__")) (Value.str (.ofString "__init__") 610) (Value.ref 337), DictEntry.mk (PyData.keyHash P (.ofString "bounds")) (Value.str (.ofString "bounds") 616) (Value.ref 342), DictEntry.mk (PyData.keyHash P (.ofString "propagate")) (Value.str (.ofString "propagate") 622) (Value.ref 347), DictEntry.mk (PyData.keyHash P (.ofString "check")) (Value.str (.ofString "check") 630) (Value.ref 354), DictEntry.mk (PyData.keyHash P (.ofString "told")) (Value.str (.ofString "told") 637) (Value.ref 361), DictEntry.mk (PyData.keyHash P (.ofString "__static_attributes__")) (Value.str (.ofString "__static_attributes__") 642) (Value.ref 362), DictEntry.mk (PyData.keyHash P (.ofString "__doc__")) (Value.str (.ofString "__doc__") 644) Value.none] 3) #[]) :: (nat_lit 364, Obj.mk (Value.type "type") none (Data.cls (ClassData.mk (Str.ofString "LinearEq") [Value.ref 286] [Value.ref 364, Value.ref 286, Value.type "object"] 363 (Str.ofString "LinearEq") true [] [] false none false)) #[some (Value.ref 322), none, some (Value.str (.ofString "LinearEq") 588), some (Value.str (.ofString "LinearEq") 596), some (Value.builtin "object.__new__"), some (Value.bool true)]) :: (nat_lit 367, Obj.mk (Value.type "tuple") none (Data.seq #[Value.int 2 649, Value.int (-3) 651, Value.int 4 652, Value.int 6 653, Value.int (-6) 655, Value.int 9 656, Value.int 10 657, Value.int (-4) 659, Value.int 12 660, Value.int 3 661, Value.int (-9) 663, Value.int 8 664]) #[]) :: (nat_lit 368, Obj.mk (Value.type "tuple") none (Data.seq #[]) #[]) :: (nat_lit 370, Obj.mk (Value.type "tuple") none (Data.seq #[Value.str (.ofString "feed") 669, Value.str (.ofString "many") 670, Value.str (.ofString "cells") 671, Value.str (.ofString "spot") 672, Value.str (.ofString "lap") 673]) #[]) :: (nat_lit 371, Obj.mk (Value.type "tuple") none (Data.seq #[]) #[]) :: (nat_lit 373, Obj.mk (Value.type "code") none (Data.fields #[Value.str (.ofString "_law_draw") 666, Value.str (.ofString "_law_draw") 667, Value.str (.ofString "/claim/cut.py") 668, Value.int 227 0, Value.int 2 0, Value.int 0 0, Value.int 0 0, Value.int 3 0, Value.ref 368, Value.bool true, Value.int 181 0, Value.ref 369, Value.none, Value.ref 370, Value.ref 371, Value.ref 372, Value.int 674 0, Value.int 227 0, Value.str (.ofString "/claim/cut.py") 675]) #[]) :: (nat_lit 374, Obj.mk (Value.type "function") none (Data.func (FuncData.mk (Str.ofString "_law_draw") (Str.ofString "_law_draw") a46 (.stmts b46) s46 3 [] Value.none Value.none Value.none (Value.str (.ofString "law_nz0021_01") 647) none (Value.ref 373) Value.none 0)) #[]) :: (nat_lit 375, Obj.mk (Value.type "tuple") none (Data.seq #[]) #[]) :: (nat_lit 378, Obj.mk (Value.type "code") none (Data.fields #[Value.str (.ofString "_law_gathered") 677, Value.str (.ofString "_law_gathered") 678, Value.str (.ofString "/claim/cut.py") 679, Value.int 232 0, Value.int 2 0, Value.int 0 0, Value.int 0 0, Value.int 3 0, Value.ref 375, Value.bool true, Value.int 181 0, Value.ref 376, Value.none, Value.none, Value.none, Value.ref 377, Value.int 680 0, Value.int 232 0, Value.str (.ofString "/claim/cut.py") 681]) #[]) :: (nat_lit 379, Obj.mk (Value.type "function") none (Data.func (FuncData.mk (Str.ofString "_law_gathered") (Str.ofString "_law_gathered") a47 (.stmts b47) s47 3 [] Value.none Value.none Value.none (Value.str (.ofString "law_nz0021_01") 647) none (Value.ref 378) Value.none 0)) #[]) :: (nat_lit 380, Obj.mk (Value.type "tuple") none (Data.seq #[]) #[]) :: (nat_lit 382, Obj.mk (Value.type "tuple") none (Data.seq #[Value.str (.ofString "pairs") 686, Value.str (.ofString "modulus") 687, Value.str (.ofString "found") 688, Value.str (.ofString "spot") 689, Value.str (.ofString "met") 690, Value.str (.ofString "number") 691, Value.str (.ofString "x") 692, Value.str (.ofString "late") 693]) #[]) :: (nat_lit 383, Obj.mk (Value.type "tuple") none (Data.seq #[]) #[]) :: (nat_lit 385, Obj.mk (Value.type "code") none (Data.fields #[Value.str (.ofString "_law_walk") 683, Value.str (.ofString "_law_walk") 684, Value.str (.ofString "/claim/cut.py") 685, Value.int 239 0, Value.int 1 0, Value.int 0 0, Value.int 0 0, Value.int 3 0, Value.ref 380, Value.bool true, Value.int 181 0, Value.ref 381, Value.none, Value.ref 382, Value.ref 383, Value.ref 384, Value.int 694 0, Value.int 239 0, Value.str (.ofString "/claim/cut.py") 695]) #[]) :: (nat_lit 386, Obj.mk (Value.type "function") none (Data.func (FuncData.mk (Str.ofString "_law_walk") (Str.ofString "_law_walk") a48 (.stmts b48) s48 3 [] Value.none Value.none Value.none (Value.str (.ofString "law_nz0021_01") 647) none (Value.ref 385) Value.none 0)) #[]) :: (nat_lit 387, Obj.mk (Value.type "tuple") none (Data.seq #[]) #[]) :: (nat_lit 390, Obj.mk (Value.type "code") none (Data.fields #[Value.str (.ofString "_law_is_divisor_right") 697, Value.str (.ofString "_law_is_divisor_right") 698, Value.str (.ofString "/claim/cut.py") 699, Value.int 250 0, Value.int 1 0, Value.int 0 0, Value.int 0 0, Value.int 3 0, Value.ref 387, Value.bool true, Value.int 181 0, Value.ref 388, Value.none, Value.none, Value.none, Value.ref 389, Value.int 700 0, Value.int 250 0, Value.str (.ofString "/claim/cut.py") 701]) #[]) :: (nat_lit 391, Obj.mk (Value.type "function") none (Data.func (FuncData.mk (Str.ofString "_law_is_divisor_right") (Str.ofString "_law_is_divisor_right") a49 (.stmts b49) s49 3 [] Value.none Value.none Value.none (Value.str (.ofString "law_nz0021_01") 647) none (Value.ref 390) Value.none 0)) #[]) :: (nat_lit 392, Obj.mk (Value.type "tuple") none (Data.seq #[]) #[]) :: (nat_lit 394, Obj.mk (Value.type "tuple") none (Data.seq #[Value.str (.ofString "pairs") 706, Value.str (.ofString "c") 707, Value.str (.ofString "modulus") 708, Value.str (.ofString "met") 709]) #[]) :: (nat_lit 395, Obj.mk (Value.type "tuple") none (Data.seq #[]) #[]) :: (nat_lit 397, Obj.mk (Value.type "code") none (Data.fields #[Value.str (.ofString "_law_can_be") 703, Value.str (.ofString "_law_can_be") 704, Value.str (.ofString "/claim/cut.py") 705, Value.int 257 0, Value.int 2 0, Value.int 0 0, Value.int 0 0, Value.int 3 0, Value.ref 392, Value.bool true, Value.int 181 0, Value.ref 393, Value.none, Value.ref 394, Value.ref 395, Value.ref 396, Value.int 710 0, Value.int 257 0, Value.str (.ofString "/claim/cut.py") 711]) #[]) :: (nat_lit 398, Obj.mk (Value.type "function") none (Data.func (FuncData.mk (Str.ofString "_law_can_be") (Str.ofString "_law_can_be") a50 (.stmts b50) s50 3 [] Value.none Value.none Value.none (Value.str (.ofString "law_nz0021_01") 647) none (Value.ref 397) Value.none 0)) #[]) :: (nat_lit 399, Obj.mk (Value.type "tuple") none (Data.seq #[]) #[]) :: (nat_lit 402, Obj.mk (Value.type "code") none (Data.fields #[Value.str (.ofString "_law_is_asked_right") 713, Value.str (.ofString "_law_is_asked_right") 714, Value.str (.ofString "/claim/cut.py") 715, Value.int 262 0, Value.int 4 0, Value.int 0 0, Value.int 0 0, Value.int 3 0, Value.ref 399, Value.bool true, Value.int 181 0, Value.ref 400, Value.none, Value.none, Value.none, Value.ref 401, Value.int 716 0, Value.int 262 0, Value.str (.ofString "/claim/cut.py") 717]) #[]) :: (nat_lit 403, Obj.mk (Value.type "function") none (Data.func (FuncData.mk (Str.ofString "_law_is_asked_right") (Str.ofString "_law_is_asked_right") a51 (.stmts b51) s51 3 [] Value.none Value.none Value.none (Value.str (.ofString "law_nz0021_01") 647) none (Value.ref 402) Value.none 0)) #[]) :: (nat_lit 404, Obj.mk (Value.type "tuple") none (Data.seq #[]) #[]) :: (nat_lit 407, Obj.mk (Value.type "code") none (Data.fields #[Value.str (.ofString "law") 719, Value.str (.ofString "law") 720, Value.str (.ofString "/claim/cut.py") 721, Value.int 275 0, Value.int 1 0, Value.int 0 0, Value.int 0 0, Value.int 3 0, Value.ref 404, Value.bool true, Value.int 181 0, Value.ref 405, Value.none, Value.none, Value.none, Value.ref 406, Value.int 722 0, Value.int 275 0, Value.str (.ofString "/claim/cut.py") 723]) #[]) :: (nat_lit 408, Obj.mk (Value.type "function") none (Data.func (FuncData.mk (Str.ofString "law") (Str.ofString "law") a52 (.stmts b52) s52 3 [] Value.none Value.none Value.none (Value.str (.ofString "law_nz0021_01") 647) none (Value.ref 407) Value.none 0)) #[]) :: [] : Frag)) _ _ _ (isf rfl) _ _ _ (isf rfl) _ _ _ (isf rfl) _ _ _ (isf rfl) _ _ _ (isf rfl) _ _ _ (isf rfl) _ _ _ (isf rfl) _ _ _ (isf rfl) _ _ _ (isf rfl) _ _ _ (isf rfl) _ _ _ (isf rfl) _ _ _ (isf rfl) _ _ _ (isf rfl) _ _ _ (isf rfl) _ _ _ (isf rfl) _ _ _ (isf rfl) _ _ _ (isf rfl) _ _ _ (isf rfl) _ _ _ (isf rfl) _ _ _ (isf rfl) _ _ _ (isf rfl) _ _ _ (isf rfl) _ _ _ (isf rfl) _ _ _ (isf rfl) _ _ _ (isf rfl) _ _ _ (isf rfl) _ _ _ (isf rfl) _ _ _ (isf rfl) _ _ _ (isf rfl) _ _ _ (isf rfl) _ _ _ (isf rfl) _ _ _ (isf rfl) _ _ _ (isf rfl) _ _ _ (isf rfl) _ _ _ (isf rfl) _ _ _ (isf rfl) _ _ _ (isf rfl) _ _ _ (isf rfl) _ _ _ (isf rfl) _ _ _ (isf rfl) _ _ _ (isf rfl) _ _ _ (isf rfl) _ _ _ (isf rfl) _ _ _ (isf rfl) _ _ _ (isf rfl) _ _ _ (isf rfl) _ _ _ (isf rfl) _ _ _ (isf rfl) _ _ _ (isf rfl) _ _ _ (isf rfl) _ _ _ (isf rfl) _ _ _ (isf rfl) _ _ _ (isf rfl)
noncomputable def lf : Life := Life.mk [] [] [] 0 [] [] false #[] [] 0 false false false 0 [2000, 10, 10] false 0 true [] [] 0 false
noncomputable def a43 : Obj := Obj.mk (Value.type "tuple") none (Data.seq #[]) #[]
noncomputable def a44 : Obj := Obj.mk Value.none none (Data.fields #[]) #[]
noncomputable def a45 : Obj := Obj.mk (Value.type "code") none (Data.fields #[Value.str (Str.ofString "<module>") 182, Value.str (Str.ofString "<module>") 183, Value.str (Str.ofString "/claim/cut.py") 184, Value.int 1 0, Value.int 0 0, Value.int 0 0, Value.int 0 0, Value.int 0 0, Value.ref 11, Value.bool false, Value.int 181 0, Value.ref 12, Value.none, Value.none, Value.none, Value.none, Value.int 185 0, Value.int 1 0, Value.str (Str.ofString "/claim/cut.py") 186]) #[]
noncomputable def a46 : Obj := Obj.mk (Value.type "frame") none Data.plain #[some (Value.ref 13), some (Value.ref 3), some (Value.ref 3), none, some (Value.str (Str.ofString "__main__") 164), none, some (Value.ref 0)]
noncomputable def ha (P : Params) : Heap := ⟨Array.mk [boot_o_0 P, boot_o_1 P, boot_o_2 P, boot_o_3 P, boot_o_4 P, boot_o_5 P, boot_o_6 P, boot_o_7 P, boot_o_8 P, boot_o_9 P, boot_o_10 P, a43, a44, a45, a46], lf⟩
noncomputable def tb (P : Params) : BT := .node (boot_o_0 P) (.node (boot_o_1 P) (.node (boot_o_3 P) (.node (boot_o_7 P) .nil .nil) (.node a43 .nil .nil)) (.node (boot_o_5 P) (.node (boot_o_9 P) .nil .nil) (.node a45 .nil .nil))) (.node (boot_o_2 P) (.node (boot_o_4 P) (.node (boot_o_8 P) .nil .nil) (.node a44 .nil .nil)) (.node (boot_o_6 P) (.node (boot_o_10 P) .nil .nil) (.node a46 .nil .nil)))
noncomputable abbrev sa (w : World) (os : OsState) : Shared := ⟨ha w.params, Array.mk [], ⟨0, 0, 0, 0⟩, 187, os⟩
noncomputable abbrev sb (w : World) (os : OsState) : SharedT := { tree := tb w.params, n := 15, life := lf, gens := Array.mk [], drawn := ⟨0, 0, 0, 0⟩, toks := 187, os := os }
noncomputable abbrev bd : List Stmt := behindTheImports p
noncomputable abbrev cd : Code := .body bd env
noncomputable abbrev ps : Pos := ⟨0, 0, 0, 0⟩
noncomputable abbrev fr : List Frame := [topFrame ⟨0, 0, 0, 0⟩]
theorem pre (w : World) : (fun os => topGo treeTable p w 11 (some (.ref 6)) 12 ⟨boot_heap w.params, Array.mk [], boot_drawn, boot_toks, os⟩ (topStub p)) = fun os => some (sa w os, ⟨denote treeTable cd, cd, ps, fr⟩) := by
  rw [Fast.te15667345088766844465, Fast.te14364793385576792824, Fast.te11892475500146522536]
  kernel_rfl
theorem block (w : World) : (fun os => segRun treeTable p w 11 (some (.ref 6)) 1 1 (sa w os) (blockOf bd env cd ps fr)) = fun os => some (.next, (sb w os).abs, cd, ps) := by
  rw [Fast.te14374325043358763698, Fast.te14364793385576792824]
  kernel_rfl
theorem open_ (w : World) : (fencedOpening treeTable p w 4830).map (fun s => (s.heap, s.gens, s.drawn, s.toks)) = some (boot_heap w.params, Array.mk [], boot_drawn, boot_toks) :=
  boot_open (by kernel_rfl) (by decide) (fun s => by kernel_rfl) w
theorem size (w : World) : ((boot_heap w.params).isNs mainGlobals && (Array.mk [] : Array GenState).size == 0, (boot_heap w.params).objs.size, (boot_heap w.params).nsMap mainGlobals "__annotations__") = (true, 11, some (.ref 6)) := by
  rw [Fast.te8920871248978507458]
  kernel_rfl

theorem kas_eq (P : Params) : kas = (heap_39 P).map (·.1) := by kernel_rfl
noncomputable def fa (l : List Nat) : Arguments := match stp l with
  | .FunctionDef _ a .. => a
  | _ => ⟨[], [], none, [], [], none, []⟩
noncomputable def fb (l : List Nat) : List Stmt := match stp l with
  | .FunctionDef _ _ b .. => b
  | _ => []
noncomputable def fs (l : List Nat) : Scope := match stp l with
  | .FunctionDef _ _ _ _ _ _ s .. => s
  | _ => p.main.scope
noncomputable def tm (n q : String) (l : List Nat) : Obj := Obj.mk .none none (.func (.mk (.ofString n) (.ofString q) (fa l) (.stmts (fb l)) (fs l) 0 [] .none .none .none .none none .none .none 0)) #[]
noncomputable abbrev ke (P : Params) (n : String) (t : Nat) (v : Value) : DictEntry := DictEntry.mk (PyData.keyHash P (.ofString n)) (.str (.ofString n) t) v
noncomputable def flv : List (Int × Int × Nat) → List Value
  | [] => []
  | (a, b, c) :: l => .int a 0 :: .int b 0 :: .ref c :: flv l
noncomputable abbrev fl (l : List (Int × Int × Nat)) : Obj := Obj.mk .none none (.fields ⟨flv l⟩) #[]
noncomputable def mrg : Nat → Nat → Frag → List Obj → List Obj
  | 0, _, _, _ => []
  | f + 1, a, k, os => match k with
    | [] => os
    | (b, x) :: k' => match Nat.beq a b with
      | true => x :: mrg f (a + 1) k' os
      | false => match os with
        | [] => []
        | o :: os' => o :: mrg f (a + 1) k os'
noncomputable def nk (P : Params) : List Obj := boot_o_0 P ::
  boot_o_1 P ::
  boot_o_4 P ::
  boot_o_5 P ::
  boot_o_6 P ::
  boot_o_7 P ::
  boot_o_8 P ::
  boot_o_9 P ::
  boot_o_10 P ::
  a43 ::
  fl [(1, 0, 20), (5, 0, 27), (7, 0, 34), (9, 0, 41), (14, 0, 48), (17, 0, 53), (19, 0, 58), (21, 0, 65), (23, 0, 72), (34, 0, 79), (41, 0, 86), (48, 0, 93), (54, 0, 100), (147, 0, 254), (163, 0, 294), (168, 0, 301), (170, 0, 308), (180, 0, 313), (190, 0, 320), (198, 0, 328), (227, 0, 373), (232, 0, 378), (239, 0, 385), (250, 0, 390), (257, 0, 397), (262, 0, 402), (275, 0, 407)] ::
  a45 ::
  a46 ::
  a44 ::
  tm "_wall" "_wall" [0] ::
  a44 ::
  tm "least" "least" [2] ::
  a44 ::
  tm "greatest" "greatest" [3] ::
  a44 ::
  tm "next_from" "next_from" [4] ::
  a44 ::
  tm "has" "has" [5] ::
  a44 ::
  tm "up_to" "up_to" [7] ::
  a44 ::
  tm "from_on" "from_on" [8] ::
  a44 ::
  tm "without" "without" [9] ::
  a44 ::
  tm "meet" "meet" [10] ::
  a44 ::
  tm "negation" "negation" [11] ::
  a44 ::
  tm "struck" "struck" [12] ::
  a44 ::
  tm "said_of" "said_of" [13] ::
  a43 ::
  Obj.mk (Value.type "builtin_function_or_method") none (Data.fields #[Value.builtin "type.__prepare__", Value.type "type"]) #[] ::
  Obj.mk (Value.type "dict") none (Data.dict #[ke P "__module__" 300 (Value.str (Str.ofString "fdsolve.store") 291), ke P "__qualname__" 302 (Value.str (Str.ofString "Store") 301), ke P "__firstlineno__" 304 (Value.int 54 303), ke P "__init__" 311 (Value.ref 108), ke P "new_var" 319 (Value.ref 115), ke P "size" 326 (Value.ref 122), ke P "dom" 334 (Value.ref 129), ke P "initial" 342 (Value.ref 136), ke P "low" 350 (Value.ref 143), ke P "high" 358 (Value.ref 150), ke P "has" 367 (Value.ref 157), ke P "is_fixed" 375 (Value.ref 164), ke P "value" 383 (Value.ref 171), ke P "width" 391 (Value.ref 178), ke P "holds" 399 (Value.ref 185), ke P "enter" 412 (Value.ref 192), ke P "strike" 421 (Value.ref 199), ke P "decide" 429 (Value.ref 206), ke P "fail" 437 (Value.ref 213), ke P "push" 444 (Value.ref 220), ke P "pop" 454 (Value.ref 227), ke P "depth" 461 (Value.ref 234), ke P "changed" 468 (Value.ref 241), ke P "__static_attributes__" 477 (Value.ref 242)] 24) #[] ::
  a43 ::
  fl [(56, 4, 107), (66, 4, 114), (73, 4, 121), (76, 4, 128), (79, 4, 135), (82, 4, 142), (85, 4, 149), (88, 4, 156), (91, 4, 163), (94, 4, 170), (97, 4, 177), (100, 4, 184), (103, 4, 191), (116, 4, 198), (119, 4, 205), (122, 4, 212), (127, 4, 219), (130, 4, 226), (142, 4, 233), (145, 4, 240)] ::
  Obj.mk (Value.type "code") none (Data.fields #[Value.str (Str.ofString "Store") 295, Value.str (Str.ofString "Store") 296, Value.str (Str.ofString "/claim/cut.py") 297, Value.int 54 0, Value.int 0 0, Value.int 0 0, Value.int 0 0, Value.int 0 0, Value.ref 98, Value.bool false, Value.int 181 0, Value.ref 99, Value.none, Value.none, Value.none, Value.none, Value.int 298 0, Value.int 54 0, Value.str (Str.ofString "/claim/cut.py") 299]) #[] ::
  Obj.mk (Value.type "frame") none Data.plain #[some (Value.ref 100), some (Value.ref 3), some (Value.ref 97), none, some (Value.str (Str.ofString "fdsolve.store") 291), none, some (Value.ref 0)] ::
  a44 ::
  tm "__init__" "Store.__init__" [15, 0] ::
  a44 ::
  tm "new_var" "Store.new_var" [15, 1] ::
  a44 ::
  tm "size" "Store.size" [15, 2] ::
  a44 ::
  tm "dom" "Store.dom" [15, 3] ::
  a44 ::
  tm "initial" "Store.initial" [15, 4] ::
  a44 ::
  tm "low" "Store.low" [15, 5] ::
  a44 ::
  tm "high" "Store.high" [15, 6] ::
  a44 ::
  tm "has" "Store.has" [15, 7] ::
  a44 ::
  tm "is_fixed" "Store.is_fixed" [15, 8] ::
  a44 ::
  tm "value" "Store.value" [15, 9] ::
  a44 ::
  tm "width" "Store.width" [15, 10] ::
  a44 ::
  tm "holds" "Store.holds" [15, 11] ::
  a44 ::
  tm "enter" "Store.enter" [15, 12] ::
  a44 ::
  tm "strike" "Store.strike" [15, 13] ::
  a44 ::
  tm "decide" "Store.decide" [15, 14] ::
  a44 ::
  tm "fail" "Store.fail" [15, 15] ::
  a44 ::
  tm "push" "Store.push" [15, 16] ::
  a44 ::
  tm "pop" "Store.pop" [15, 17] ::
  a44 ::
  tm "depth" "Store.depth" [15, 18] ::
  a44 ::
  tm "changed" "Store.changed" [15, 19] ::
  Obj.mk (Value.type "super") none (Data.fields #[Value.ref 244, Value.ref 244, Value.ref 244]) #[] ::
  Obj.mk (Value.type "builtin_function_or_method") none (Data.fields #[Value.builtin "object.__init_subclass__", Value.ref 244]) #[] ::
  a43 ::
  Obj.mk (Value.type "builtin_function_or_method") none (Data.fields #[Value.builtin "type.__prepare__", Value.type "type"]) #[] ::
  Obj.mk (Value.type "dict") none (Data.dict #[ke P "__module__" 492 (Value.str (Str.ofString "fdsolve.store") 291), ke P "__qualname__" 494 (Value.str (Str.ofString "Propagator") 493), ke P "__firstlineno__" 496 (Value.int 147 495), ke P "__init__" 505 (Value.ref 262), ke P "propagate" 513 (Value.ref 269), ke P "check" 521 (Value.ref 276), ke P "told" 528 (Value.ref 283), ke P "__static_attributes__" 532 (Value.ref 284)] 8) #[] ::
  a43 ::
  fl [(149, 4, 261), (154, 4, 268), (157, 4, 275), (160, 4, 282)] ::
  Obj.mk (Value.type "code") none (Data.fields #[Value.str (Str.ofString "Propagator") 487, Value.str (Str.ofString "Propagator") 488, Value.str (Str.ofString "/claim/cut.py") 489, Value.int 147 0, Value.int 0 0, Value.int 0 0, Value.int 0 0, Value.int 0 0, Value.ref 252, Value.bool false, Value.int 181 0, Value.ref 253, Value.none, Value.none, Value.none, Value.none, Value.int 490 0, Value.int 147 0, Value.str (Str.ofString "/claim/cut.py") 491]) #[] ::
  Obj.mk (Value.type "frame") none Data.plain #[some (Value.ref 254), some (Value.ref 3), some (Value.ref 251), none, some (Value.str (Str.ofString "fdsolve.store") 291), none, some (Value.ref 0)] ::
  a44 ::
  tm "__init__" "Propagator.__init__" [16, 0] ::
  a44 ::
  tm "propagate" "Propagator.propagate" [16, 1] ::
  a44 ::
  tm "check" "Propagator.check" [16, 2] ::
  a44 ::
  tm "told" "Propagator.told" [16, 3] ::
  Obj.mk (Value.type "super") none (Data.fields #[Value.ref 286, Value.ref 286, Value.ref 286]) #[] ::
  Obj.mk (Value.type "builtin_function_or_method") none (Data.fields #[Value.builtin "object.__init_subclass__", Value.ref 286]) #[] ::
  a44 ::
  tm "rows_of" "rows_of" [18] ::
  a44 ::
  tm "least_term" "least_term" [19] ::
  a44 ::
  tm "least_reasons" "least_reasons" [20] ::
  a44 ::
  tm "strike_le" "strike_le" [21] ::
  a44 ::
  tm "divisor_of" "divisor_of" [22] ::
  Obj.mk (Value.type "builtin_function_or_method") none (Data.fields #[Value.builtin "type.__prepare__", Value.type "type"]) #[] ::
  Obj.mk (Value.type "dict") none (Data.dict #[ke P "__module__" 595 (Value.str (Str.ofString "fdsolve.linear") 540), ke P "__qualname__" 597 (Value.str (Str.ofString "LinearEq") 596), ke P "__firstlineno__" 599 (Value.int 198 598), ke P "__init__" 610 (Value.ref 337), ke P "bounds" 616 (Value.ref 342), ke P "propagate" 622 (Value.ref 347), ke P "check" 630 (Value.ref 354), ke P "told" 637 (Value.ref 361), ke P "__static_attributes__" 642 (Value.ref 362), ke P "__classcell__" 643 (Value.ref 325)] 10) #[] ::
  a43 ::
  fl [(200, 4, 336), (207, 4, 341), (210, 4, 346), (220, 4, 353), (223, 4, 360)] ::
  Obj.mk (Value.type "code") none (Data.fields #[Value.str (Str.ofString "LinearEq") 590, Value.str (Str.ofString "LinearEq") 591, Value.str (Str.ofString "/claim/cut.py") 592, Value.int 198 0, Value.int 0 0, Value.int 0 0, Value.int 0 0, Value.int 0 0, Value.ref 326, Value.bool false, Value.int 181 0, Value.ref 327, Value.none, Value.none, Value.none, Value.none, Value.int 593 0, Value.int 198 0, Value.str (Str.ofString "/claim/cut.py") 594]) #[] ::
  Obj.mk (Value.type "frame") none Data.plain #[some (Value.ref 328), some (Value.ref 3), some (Value.ref 324), none, some (Value.str (Str.ofString "fdsolve.linear") 540), none, some (Value.ref 0)] ::
  a44 ::
  tm "__init__" "LinearEq.__init__" [23, 0] ::
  a44 ::
  tm "bounds" "LinearEq.bounds" [23, 1] ::
  a44 ::
  tm "propagate" "LinearEq.propagate" [23, 2] ::
  a44 ::
  tm "check" "LinearEq.check" [23, 3] ::
  a44 ::
  tm "told" "LinearEq.told" [23, 4] ::
  Obj.mk (Value.type "super") none (Data.fields #[Value.ref 364, Value.ref 364, Value.ref 364]) #[] ::
  Obj.mk (Value.type "builtin_function_or_method") none (Data.fields #[Value.builtin "object.__init_subclass__", Value.ref 364]) #[] ::
  a44 ::
  tm "_law_draw" "_law_draw" [26] ::
  a44 ::
  tm "_law_gathered" "_law_gathered" [27] ::
  a44 ::
  tm "_law_walk" "_law_walk" [28] ::
  a44 ::
  tm "_law_is_divisor_right" "_law_is_divisor_right" [29] ::
  a44 ::
  tm "_law_can_be" "_law_can_be" [30] ::
  a44 ::
  tm "_law_is_asked_right" "_law_is_asked_right" [31] ::
  a44 ::
  tm "law" "law" [32] :: []

noncomputable def hz (P : Params) : Heap := ⟨Array.mk (mrg 410 (nat_lit 0) (heap_39 P) (nk P)), lf⟩
theorem run (w : World) : (fun os => (segRunT treeTable p w 11 (some (.ref 6)) 1 2400 (sb w os) (piecesOf bd env cd ps fr)).map fun x => (x.1, x.2.2.1, topRun treeTable p w 11 (some (.ref 6)) 4 x.2.1.abs ⟨doneF .next, cd, x.2.2.2, fr⟩)) =
    fun os => some (.next, cd, some ⟨hz w.params, Array.mk [], ⟨0, 0, 0, 0⟩, 725, os⟩) := by
  rw [Fast.te14082659384304107361, Fast.te14364793385576792824, Fast.te10110043849684766642]
  kernel_rfl
noncomputable abbrev sz (w : World) (os : OsState) : Shared := ⟨hz w.params, Array.mk [], ⟨0, 0, 0, 0⟩, 725, os⟩
theorem two {α β : Type} {a a' : α} {b b' : β} (h : a = a') (h' : b = b') : (a, b) = (a', b') := by rw [h, h']
theorem kk (w : World) : kas.map (hz w.params).get? = (heap_39 w.params).map fun x => some x.2 := by kernel_rfl
section
variable (w : World) (os : OsState)
theorem ka : staticsOk (importedModules p.main.body) (boot_heap w.params) (sz w os).heap = true := by kernel_rfl
theorem kb : namesBound p (sz w os).heap = true := by kernel_rfl
theorem kc : gensDone (sz w os) = true := by kernel_rfl
theorem kd : laidKept (boot_heap w.params) (sz w os).heap = true := by kernel_rfl
theorem la : seen ((recsOf view).map (·.name)) (ownsOf view) [] { sz w os with gens := #[] } = expectedOf view := by
  rw [Fast.te5160383126252970620, PySem.W.R.mapR_eq, Fast.te3399658132070893891, Fast.te5991557255702980513]
  kernel_rfl
theorem lb : (sz w os).heap.bltView = bltViewBooted := by kernel_rfl
theorem lc : (sz w os).heap.keysOk (looseW view loose) ((recsOf view).map (·.name)) ((litsOf view).map (·.1)) ((clssOf view (looseW view loose)).map (·.name)) = true := by
  rw [Fast.te10880121769531294198, PySem.W.R.mapR_eq, Fast.te821141287760084731, Fast.te7409074990110511671, Fast.te13664370479719496447, Fast.te3399658132070893891]
  kernel_rfl
theorem ld : (sz w os).heap.accountedOkI (importedModules p.main.body) = true := by
  rw [Fast.te14722251495701143533, Fast.te5923862056798008813]
  kernel_rfl
theorem le : (sz w os).heap.isNs mainGlobals = true := by kernel_rfl
theorem lg : (sz w os).heap.isNs builtinsNs = true := by kernel_rfl
theorem li : tablesOk view (sz w os).heap = true := by
  rw [Fast.te10994771534591457954]
  kernel_rfl
theorem lj : (xlAt view [] (sz w os) && recOk R.records (sz w os)) = true := by kernel_rfl
theorem lk : tabsOk view (sz w os) = true := by
  rw [Fast.te479339242167458305]
  kernel_rfl
theorem ll : pinSeenD view (drecsOf view) (sz w os) = pinGoodD (drecsOf view) := by
  rw [Fast.te16090120013241838585, Fast.te3247288618530077131]
  kernel_rfl
theorem lm : plainSeenE view (looseW view loose) (sz w os) = plainGoodE view (looseW view loose) := by
  rw [Fast.te2386780881361962483, Fast.te821141287760084731]
  kernel_rfl
theorem ln : plainSeenD view loose (sz w os) = plainGoodD view loose := by
  rw [Fast.te11698064438423848299]
  kernel_rfl
theorem lo : wideSeen view (sz w os) = wideGood view := by
  rw [Fast.te7317090234206586261]
  kernel_rfl
theorem lq : clsSeenW view loose (sz w os) = clsGoodW view loose := by
  rw [Fast.te7369524293546568484]
  kernel_rfl
theorem look0 : (staticsOk (importedModules p.main.body) (boot_heap w.params) (sz w os).heap && namesBound p (sz w os).heap && gensDone (sz w os) && laidKept (boot_heap w.params) (sz w os).heap) = true :=
  look_both (look_both (look_both (ka w os) (kb w os)) (kc w os)) (kd w os)
theorem look1 : openSeen view loose (importedModules p.main.body) (fun s => xlAt view [] s && recOk R.records s) true (sz w os) = openGood view loose := by
  unfold openSeen openGood
  exact two (la w os) (two (lb w os) (two (look_both (look_both (look_both (look_both (look_both (look_both (lc w os) (ld w os)) (le w os)) (lg w os)) (li w os)) (lj w os)) rfl) (two (lk w os) (two (ll w os) (two (lm w os) (two (ln w os) (two (lo w os) (lq w os))))))))
end
noncomputable abbrev hk : Hook := kHook heap_39 kas kas_eq
theorem three {α β γ : Type} {a a' : α} {b b' : β} {c c' : γ} (h : (a, b, c) = (a', b', c')) : a = a' ∧ b = b' ∧ c = c' := by
  injection h with h1 h2
  injection h2 with h2 h3
  exact ⟨h1, h2, h3⟩
theorem left0 (w : World) (os : OsState) : ∃ s' pq, segRunT treeTable p w 11 (some (.ref 6)) 1 2400 (sb w os) (piecesOf bd env cd ps fr) = some (.next, s', cd, pq) ∧ topRun treeTable p w 11 (some (.ref 6)) 4 s'.abs ⟨doneF .next, cd, pq, fr⟩ = some (sz w os) := by
  obtain ⟨⟨f, s', c, pq⟩, hx, hy⟩ := Option.map_eq_some_iff.mp (congrFun (run w) os)
  obtain ⟨hf, hc, hr⟩ := three hy
  dsimp only at hf hc hr
  subst hf hc
  exact ⟨s', pq, hx, hr⟩
theorem left1 (w : World) (os : OsState) {s' pq r} (hx : segRunT treeTable p w 11 (some (.ref 6)) 1 2400 (sb w os) (piecesOf bd env cd ps fr) = some (.next, s', cd, pq)) (hr : topRun treeTable p w 11 (some (.ref 6)) 4 s'.abs ⟨doneF .next, cd, pq, fr⟩ = some r) :
    topRun treeTable p w 11 (some (.ref 6)) (12 + (1 + (2400 + 4))) ⟨boot_heap w.params, Array.mk [], boot_drawn, boot_toks, os⟩ (topStub p) = some r := by
    refine go_top (congrFun (pre w) os) (piece_block (congrFun (block w) os) ?_)
    rw [← List.append_nil bd]
    exact piece_app (segRun_of hx) (piece_nil hr)
theorem left2 (w : World) (os : OsState) {r} (run : topRun treeTable p w 11 (some (.ref 6)) (12 + (1 + (2400 + 4))) ⟨boot_heap w.params, Array.mk [], boot_drawn, boot_toks, os⟩ (topStub p) = some r) 
   (l1 : (staticsOk (importedModules p.main.body) (boot_heap w.params) r.heap && namesBound p r.heap && gensDone r && laidKept (boot_heap w.params) r.heap) = true) : 
   topFrom treeTable p w 4830 ⟨boot_heap w.params, Array.mk [], boot_drawn, boot_toks, os⟩ = some r := by
    obtain ⟨z1, z2, z3⟩ : _ ∧ _ ∧ _ := by simpa only [Prod.mk.injEq] using size w
    have run := topRun_mono (4830 - 2417) _ _ _ _ run
    unfold topFrom
    dsimp only
    rw [z1, z2, z3]
    show ((topRun treeTable p w 11 (some (.ref 6)) 4830 _ _).bind _) = _
    rw [run]
    show (match staticsOk (importedModules p.main.body) (boot_heap w.params) r.heap && namesBound p r.heap && gensDone r && laidKept (boot_heap w.params) r.heap with | true => _ | false => _) = _
    rw [l1]
theorem fin {σ α β : Type} {t : Option σ} {r : σ} {F : σ → α} {G : σ → β} {a : α} {b : β} (h : t = some r) (h1 : F r = a) (h2 : G r = b) : t.map (fun s => (F s, G s)) = some (a, b) := by
  subst h h1 h2; rfl
theorem left3 (w : World) : ∃ os, fencedOpening treeTable p w 4830 = some ⟨boot_heap w.params, Array.mk [], boot_drawn, boot_toks, os⟩ := by
  obtain ⟨⟨h, gs, d, k, os⟩, e, e'⟩ := Option.map_eq_some_iff.mp (open_ w)
  have h1 := congrArg Prod.fst e'
  have h2 := congrArg (fun x => x.2.1) e'
  have h3 := congrArg (fun x => x.2.2.1) e'
  have h4 := congrArg (fun x => x.2.2.2) e'
  dsimp only at h1 h2 h3 h4
  subst h1 h2 h3 h4
  exact ⟨os, e⟩
theorem left4 (w : World) (os : OsState) : topFrom treeTable p w 4830 ⟨boot_heap w.params, Array.mk [], boot_drawn, boot_toks, os⟩ = some (sz w os) := by
  obtain ⟨s', pq, hx, hr⟩ := left0 w os
  exact left2 w os (left1 w os hx hr) (look0 w os)
theorem bindE {α β : Type} {x : Option α} {a : α} {f : α → Option β} (h : x = some a) : x.bind f = f a := by
  subst h; rfl
theorem left5 (w : World) : ∃ os, openEnds treeTable p w 4830 = topFrom treeTable p w 4830 ⟨boot_heap w.params, Array.mk [], boot_drawn, boot_toks, os⟩ := by
  obtain ⟨os, e⟩ := left3 w
  exact ⟨os, bindE e⟩
theorem left : LeftO p view loose (fun s => xlAt view [] s && recOk R.records s) (Hook.obs hk) (Hook.val hk) 4830 := by
  intro w
  obtain ⟨os, e⟩ := left5 w
  rw [e]
  exact fin (left4 w os) (look1 w os) (kk w)
theorem said : PySem.Challenge.rw_nz0021_01.wellSaid = true := by
  unfold OpenLaw.wellSaid OpenRow.wellSaid OpenRow.partSaid looksOpen
  repeat' with_reducible refine look_both ?_ ?_
  all_goals decide +kernel
theorem dkS : (defOf view R.name).isSome = true := by kernel_rfl
noncomputable def dk : DefRec × List (Str × PySem.Expr) := (defOf view R.name).get dkS
theorem dk_eq : defOf view R.name = some (dk.1, dk.2) := (Option.some_get dkS).symm
theorem dk_def : p.theDef R.name = some (dk.1.params, dk.1.body, dk.1.scope) := by kernel_rfl
theorem dk_kw : kwWritten? dk.1.params.kwonlyargs dk.1.params.kw_defaults = some dk.2 := by kernel_rfl
theorem dk_name : dk.1.name = Str.ofString "law" := by kernel_rfl
theorem looks : (chainsOk view && opensWell p && (frees R && R.within.isEmpty)) = true := by kernel_rfl
end hd
theorem hd (walk : PySem.W.WalkO hd.view hd.loose (PySem.W.XL hd.view []) hd.hk.says hd.R hd.dk.1 hd.dk.2 fun f vs => PySem.call f vs) : PySem.Challenge.rw_nz0021_01.Holds :=
  PySem.W.holds_law hd.said fun said => PySem.W.holds_open (r := PySem.Challenge.rw_nz0021_01.row) hd.left (PySem.W.Hook.of hd.hk) (PySem.W.Hook.keeps hd.hk)
    (fun s e => PySem.W.xl_of s (Bool.and_eq_true_iff.mp e).1) PySem.W.XL.keeps hd.dk_eq hd.dk_def hd.dk_kw (fun s e => PySem.W.recFacts_of (Bool.and_eq_true_iff.mp e).2) (by rfl)
    said hd.looks ⟨rfl, rfl, rfl, rfl, rfl, by decide +kernel⟩ ⟨[PySem.W.WData.list []], by decide +kernel, by decide +kernel⟩ walk
end Mine
set_option maxRecDepth 100000
namespace Mine
section
open PySem PySem.Spec PySem.Calls PyProof.Rows PySem.W

/-- What a Python value is, seen through the heap. -/
inductive AV where
  | int (i : Int)
  | bool (b : Bool)
  | none
  | str (x : String)
  | tup (l : List AV)
  | lst (l : List AV)
  | loc (n : Nat)
  | obj (C : Addr) (n : Nat)
  | raw (v : Value)
  | slc (lo hi st : Option Int)

/-- A mutable place. -/
inductive Cell where
  | lst (l : List AV)
  | dI (kvs : List (Int × AV)) (ep : Nat)
  | dS (kvs : List (String × AV))
  | att (kvs : List (String × AV))

noncomputable abbrev Vw := Addr → Obj → Prop

mutual
inductive RV (V : Vw) (ρ : List Addr) : AV → Value → Prop
  | int (i : Int) (t : Tok) : RV V ρ (.int i) (.int i t)
  | bool (b : Bool) : RV V ρ (.bool b) (.bool b)
  | none : RV V ρ .none .none
  | str (x : String) (t : Tok) : RV V ρ (.str x) (.str (Str.ofString x) t)
  | tup {l : List AV} {a : Addr} {its : Array Value} {n : Nat} (ho : V a { cls := .type "tuple", data := .seq its n }) (hs : RVs V ρ l its.toList) : RV V ρ (.tup l) (.ref a)
  | lst {l : List AV} {a : Addr} {its : Array Value} {n : Nat} (ho : V a { cls := .type "list", data := .seq its n }) (hs : RVs V ρ l its.toList) : RV V ρ (.lst l) (.ref a)
  | loc {n : Nat} {a : Addr} (h : ρ[n]? = some a) : RV V ρ (.loc n) (.ref a)
  | obj {C x dx : Addr} {n : Nat} (ho : V x { cls := .ref C, dict := some dx, data := .plain }) (h : ρ[n]? = some dx) : RV V ρ (.obj C n) (.ref x)
  | raw (v : Value) : RV V ρ (.raw v) v
  | slc {lo hi st : Option Int} {a : Addr} {vl vu vs : Value} (ho : V a { cls := .type "slice", data := .fields #[vl, vu, vs] }) (pl : IsPart vl lo) (pu : IsPart vu hi) (ps : IsPart vs st) : RV V ρ (.slc lo hi st) (.ref a)
inductive RVs (V : Vw) (ρ : List Addr) : List AV → List Value → Prop
  | nil : RVs V ρ [] []
  | cons {x : AV} {v : Value} {l : List AV} {vs : List Value} (h : RV V ρ x v) (r : RVs V ρ l vs) : RVs V ρ (x :: l) (v :: vs)
end

noncomputable def ROpt (V : Vw) (ρ : List Addr) : Option AV → Option Value → Prop
  | none, _ => True
  | some a, some v => RV V ρ a v
  | some _, none => False

section
variable {V V' : Vw} {ρ ρ' : List Addr}
noncomputable def Sub (ρ ρ' : List Addr) : Prop := ∀ (n : Nat) (a : Addr), ρ[n]? = some a → ρ'[n]? = some a
theorem Sub.refl (ρ : List Addr) : Sub ρ ρ := fun _ _ h => h
theorem Sub.trans {ρ₁ ρ₂ ρ₃ : List Addr} (x : Sub ρ₁ ρ₂) (y : Sub ρ₂ ρ₃) : Sub ρ₁ ρ₃ := fun n a h => y n a (x n a h)
theorem Sub.append (ρ l : List Addr) : Sub ρ (ρ ++ l) := fun n a h => by
  have hl : n < ρ.length := by
    rcases Nat.lt_or_ge n ρ.length with h' | h'
    · exact h'
    · rw [List.getElem?_eq_none h'] at h; cases h
  rw [List.getElem?_append_left hl]; exact h
mutual
theorem RV.mono (hV : ∀ a o, V a o → V' a o) (hρ : Sub ρ ρ') : ∀ {x : AV} {v : Value}, RV V ρ x v → RV V' ρ' x v
  | _, _, .int i t => .int i t
  | _, _, .bool b => .bool b
  | _, _, .none => .none
  | _, _, .str x t => .str x t
  | _, _, .tup ho hs => .tup (hV _ _ ho) (RVs.mono hV hρ hs)
  | _, _, .lst ho hs => .lst (hV _ _ ho) (RVs.mono hV hρ hs)
  | _, _, .loc h => .loc (hρ _ _ h)
  | _, _, .obj ho h => .obj (hV _ _ ho) (hρ _ _ h)
  | _, _, .raw v => .raw v
  | _, _, .slc ho pl pu ps => .slc (hV _ _ ho) pl pu ps
theorem RVs.mono (hV : ∀ a o, V a o → V' a o) (hρ : Sub ρ ρ') : ∀ {l : List AV} {vs : List Value}, RVs V ρ l vs → RVs V' ρ' l vs
  | _, _, .nil => .nil
  | _, _, .cons h r => .cons (RV.mono hV hρ h) (RVs.mono hV hρ r)
end
theorem ROpt.mono (hV : ∀ a o, V a o → V' a o) (hρ : Sub ρ ρ') : ∀ {x : Option AV} {v : Option Value}, ROpt V ρ x v → ROpt V' ρ' x v
  | none, _, _ => trivial
  | some _, some _, h => RV.mono hV hρ h
  | some _, none, h => h.elim

theorem RVs.length : ∀ {l : List AV} {vs : List Value}, RVs V ρ l vs → vs.length = l.length
  | _, _, .nil => rfl
  | _, _, .cons _ r => by simp [RVs.length r]
theorem RVs.get : ∀ {l : List AV} {vs : List Value}, RVs V ρ l vs → ∀ {i : Nat} {x : AV}, l[i]? = some x → ∃ v, vs[i]? = some v ∧ RV V ρ x v
  | _, _, .nil, i, x, h => by simp at h
  | _, _, .cons h r, 0, x, e => by simp at e; subst e; exact ⟨_, by simp, h⟩
  | _, _, .cons _ r, i + 1, x, e => by
    obtain ⟨v, h1, h2⟩ := RVs.get r (i := i) (x := x) (by simpa using e)
    exact ⟨v, by simpa using h1, h2⟩
theorem RVs.get' : ∀ {l : List AV} {vs : List Value}, RVs V ρ l vs → ∀ {i : Nat} {v : Value}, vs[i]? = some v → ∃ x, l[i]? = some x ∧ RV V ρ x v
  | _, _, .nil, i, x, h => by simp at h
  | _, _, .cons h r, 0, x, e => by simp at e; subst e; exact ⟨_, by simp, h⟩
  | _, _, .cons _ r, i + 1, x, e => by
    obtain ⟨v, h1, h2⟩ := RVs.get' r (i := i) (v := x) (by simpa using e)
    exact ⟨v, by simpa using h1, h2⟩
theorem RVs.append : ∀ {l₁ l₂ : List AV} {v₁ v₂ : List Value}, RVs V ρ l₁ v₁ → RVs V ρ l₂ v₂ → RVs V ρ (l₁ ++ l₂) (v₁ ++ v₂)
  | _, _, _, _, .nil, r => r
  | _, _, _, _, .cons h r, r' => .cons h (RVs.append r r')
theorem RVs.snoc {l : List AV} {vs : List Value} {x : AV} {v : Value} (r : RVs V ρ l vs) (h : RV V ρ x v) : RVs V ρ (l ++ [x]) (vs ++ [v]) := r.append (.cons h .nil)
theorem RVs.set : ∀ {l : List AV} {vs : List Value}, RVs V ρ l vs → ∀ {i : Nat} {x : AV} {v : Value}, RV V ρ x v → RVs V ρ (l.set i x) (vs.set i v)
  | _, _, .nil, _, _, _, _ => .nil
  | _, _, .cons _ r, 0, _, _, h => .cons h r
  | _, _, .cons h r, _ + 1, _, _, h' => .cons h (RVs.set r h')
theorem RVs.take : ∀ {l : List AV} {vs : List Value}, RVs V ρ l vs → ∀ (n : Nat), RVs V ρ (l.take n) (vs.take n)
  | _, _, .nil, n => by simp; exact .nil
  | _, _, .cons h r, 0 => by simp; exact .nil
  | _, _, .cons h r, n + 1 => by simpa using .cons h (RVs.take r n)
theorem RVs.drop : ∀ {l : List AV} {vs : List Value}, RVs V ρ l vs → ∀ (n : Nat), RVs V ρ (l.drop n) (vs.drop n)
  | _, _, .nil, n => by simp; exact .nil
  | _, _, .cons h r, 0 => by simpa using .cons h r
  | _, _, .cons h r, n + 1 => by simpa using RVs.drop r n
theorem RVs.reverse : ∀ {l : List AV} {vs : List Value}, RVs V ρ l vs → RVs V ρ l.reverse vs.reverse
  | _, _, .nil => .nil
  | _, _, .cons h r => by simpa using (RVs.reverse r).snoc h
end

noncomputable def Vis (H ρ : List Addr) (h : Heap) : Vw := fun a o => h.get? a = some o ∧ a ∉ H ∧ a ∉ ρ

/-- The fixed ground: the program, the world, the written part, the heap that the law's call meets. -/
structure Gd where
  prog : Program
  w : World
  K : Frag
  h₀ : Heap
  mg : Str → Option Value
  mb : Str → Option Value

structure GdOk (g : Gd) : Prop where
  K : g.K.In g.h₀
  gl : g.h₀.Ns mainGlobals g.mg
  bl : g.h₀.Ns builtinsNs g.mb
  nolimit : g.h₀.NoLimit
  builtins : ∀ x : Str, x ≠ "__name__" → g.mb x = bootBuiltins x

noncomputable abbrev Lm := List (String × AV)

noncomputable def KvAt {κ κ' : Type} (R : κ → κ' → Prop) (V : Vw) (ρ : List Addr) : List (κ × AV) → List (κ' × Value) → Prop
  | [], [] => True
  | (k, x) :: r, (k', v) :: r' => R k k' ∧ RV V ρ x v ∧ KvAt R V ρ r r'
  | _, _ => False

noncomputable def getA {κ : Type} [DecidableEq κ] (kvs : List (κ × AV)) (k : κ) : Option AV := (kvs.find? fun kv => kv.1 = k).map (·.2)
noncomputable def CellAt (g : Gd) (V : Vw) (ρ : List Addr) (h : Heap) (a : Addr) : Cell → Prop
  | .lst l => ∃ its n, IsL h a its n ∧ RVs V ρ l its.toList
  | .dI kvs ep => ∃ kv', h.DictAt (intKind g.prog g.w) a kv' ep ∧ KvAt (· = ·) V ρ kvs kv'
  | .dS kvs => ∃ kv', h.DictOf (strKind g.prog g.w) a kv' ∧ KvAt (fun k k' => Str.ofString k = k') V ρ kvs kv'
  | .att kvs => ∃ m, h.Ns1 a m ∧ (∀ x, ROpt V ρ (getA kvs x) (m (Str.ofString x))) ∧ Within m (kvs.map fun p => Str.ofString p.1)

structure Base (g : Gd) (H : List Addr) (μ : List Cell) (ρ : List Addr) (s : Shared) : Prop where
  ok : GdOk g
  old : ∀ b o, g.h₀.get? b = some o → Vis H ρ s.heap b o
  len : ρ.length = μ.length
  nd : ρ.Nodup
  dis : ∀ a ∈ ρ, a ∉ H
  sys : ∀ a ∈ ρ, (a == sysModules) = false
  lt : ∀ a ∈ H, ∃ o, s.heap.get? a = some o
  cell : ∀ (i : Nat) (c : Cell) (a : Addr), μ[i]? = some c → ρ[i]? = some a → CellAt g (Vis H ρ s.heap) ρ s.heap a c

structure Ext (W ρ ρ' : List Addr) (s s' : Shared) : Prop where
  pre : Sub ρ ρ'
  keep : ∀ b o, b ∉ W → b ∉ ρ → s.heap.get? b = some o → s'.heap.get? b = some o ∧ b ∉ ρ'
  there : ∀ b ∈ W, (∃ o, s.heap.get? b = some o) → ∃ o, s'.heap.get? b = some o
  gens : s'.gens = s.gens
  os : s'.os = s.os

theorem Ext.refl (W ρ : List Addr) (s : Shared) : Ext W ρ ρ s s := ⟨Sub.refl _, fun _ _ _ h e => ⟨e, h⟩, fun _ _ h => h, rfl, rfl⟩
theorem Ext.trans {W ρ₁ ρ₂ ρ₃ : List Addr} {s₁ s₂ s₃ : Shared} (x : Ext W ρ₁ ρ₂ s₁ s₂) (y : Ext W ρ₂ ρ₃ s₂ s₃) : Ext W ρ₁ ρ₃ s₁ s₃ :=
  ⟨x.pre.trans y.pre, fun b o h1 h2 e => let z := x.keep b o h1 h2 e; y.keep b o h1 z.2 z.1, fun b hb h => y.there b hb (x.there b hb h), y.gens.trans x.gens, y.os.trans x.os⟩
theorem Ext.mono {W W' ρ ρ' : List Addr} {s s' : Shared} (x : Ext W ρ ρ' s s') (h : ∀ a ∈ W, a ∈ W') (hρ : ∀ a ∈ W', a ∉ ρ) : Ext W' ρ ρ' s s' :=
  ⟨x.pre, fun b o h1 h2 e => x.keep b o (fun q => h1 (h b q)) h2 e, fun b hb ⟨o, e⟩ => (Classical.em (b ∈ W)).elim (fun q => x.there b q ⟨o, e⟩) fun q => ⟨o, (x.keep b o q (hρ b hb) e).1⟩, x.gens, x.os⟩
theorem Ext.vis {W H ρ ρ' : List Addr} {s s' : Shared} (x : Ext W ρ ρ' s s') (hW : ∀ a ∈ W, a ∈ H) : ∀ a o, Vis H ρ s.heap a o → Vis H ρ' s'.heap a o :=
  fun a o h => let z := x.keep a o (fun q => h.2.1 (hW a q)) h.2.2 h.1; ⟨z.1, h.2.1, z.2⟩
theorem Ext.rv {W H ρ ρ' : List Addr} {s s' : Shared} (x : Ext W ρ ρ' s s') (hW : ∀ a ∈ W, a ∈ H) {a : AV} {v : Value} (h : RV (Vis H ρ s.heap) ρ a v) : RV (Vis H ρ' s'.heap) ρ' a v := h.mono (x.vis hW) x.pre
theorem Ext.rv0 {H ρ ρ' : List Addr} {s s' : Shared} (x : Ext [] ρ ρ' s s') {a : AV} {v : Value} (h : RV (Vis H ρ s.heap) ρ a v) : RV (Vis H ρ' s'.heap) ρ' a v := x.rv (fun _ q => nomatch q) h
theorem Ext.rvs0 {H ρ ρ' : List Addr} {s s' : Shared} (x : Ext [] ρ ρ' s s') {a : List AV} {v : List Value} (h : RVs (Vis H ρ s.heap) ρ a v) : RVs (Vis H ρ' s'.heap) ρ' a v := h.mono (x.vis (fun _ q => nomatch q)) x.pre

structure OkA (n : Nat) (A : Around) : Prop where
  handled : A.handled = none
  depth : A.depth + n < recursionLimit
  units : A.units + 8 * n + 8 < cLine
  frames : ∃ l, A.frames = some l

/-- What of the heap a frame owns: its names, its cells. -/
noncomputable def ocells (env : Env) : List Addr := (env.cells.filter fun p => env.kindOf p.1 == some .cell).map (·.2)
noncomputable def own (env : Env) : List Addr := env.locals :: ocells env
theorem ocells_in {env : Env} {x : Str} {c : Addr} (h : (x, c) ∈ env.cells) (hk : env.kindOf x = some .cell) : c ∈ ocells env := List.mem_map.mpr ⟨(x, c), List.mem_filter.mpr ⟨h, by simp [hk]⟩, rfl⟩
theorem ocells_of {env : Env} {c : Addr} (h : c ∈ ocells env) : ∃ x, (x, c) ∈ env.cells ∧ env.kindOf x = some .cell := by
  obtain ⟨p, hp, e⟩ := List.mem_map.mp h
  obtain ⟨h1, h2⟩ := List.mem_filter.mp hp
  exact ⟨p.1, by rw [← e]; exact h1, by simpa using h2⟩

theorem lookup_inj : ∀ {l : List (Str × Addr)} {x y : Str} {c : Addr}, (l.map (·.2)).Nodup → l.lookup x = some c → l.lookup y = some c → x = y
  | [], _, _, _, _, h, _ => by simp at h
  | (k, d) :: l, x, y, c, hn, hx, hy => by
    simp only [List.map_cons, List.nodup_cons] at hn
    simp only [List.lookup_cons] at hx hy
    by_cases h1 : x == k
    · by_cases h2 : y == k
      · rw [eq_of_beq h1, eq_of_beq h2]
      · simp only [h1, h2] at hx hy
        cases hx
        exact (hn.1 (List.mem_map.mpr ⟨(y, d), PySem.mem_of_lookup hy, rfl⟩)).elim
    · by_cases h2 : y == k
      · simp only [h1, h2] at hx hy
        cases hy
        exact (hn.1 (List.mem_map.mpr ⟨(x, d), PySem.mem_of_lookup hx, rfl⟩)).elim
      · simp only [h1, h2] at hx hy
        exact lookup_inj hn.2 hx hy
noncomputable def OwnOk (env : Env) : Prop := env.locals ∉ ocells env ∧ ∀ x y c, env.kindOf x = some .cell → env.kindOf y = some .cell → env.cells.lookup x = some c → env.cells.lookup y = some c → x = y
theorem OwnOk.of {env : Env} (h : env.locals ∉ ocells env) (h' : (env.cells.map (·.2)).Nodup) : OwnOk env := ⟨h, fun _ _ _ _ _ hx hy => lookup_inj h' hx hy⟩

structure EnvOk (sc : Scope) (env : Env) (H : List Addr) : Prop where
  scope : env.scope = sc
  kind : sc.kind = .function
  glob : env.globals = mainGlobals
  blt : env.builtins = builtinsNs
  loc : env.locals ∈ H
  cells : ∀ a ∈ ocells env, a ∈ H
  ok : OwnOk env

structure FrameAt (env : Env) (lm : Lm) (H ρ : List Addr) (h : Heap) : Prop where
  ns : ∃ m, h.Ns env.locals m ∧ ∀ x, env.kindOf (Str.ofString x) = some .local → ROpt (Vis H ρ h) ρ (lm.lookup x) (m (Str.ofString x))
  cells : ∀ x, env.kindOf (Str.ofString x) = some .cell → ∃ c v, env.cells.lookup (Str.ofString x) = some c ∧ h.IsCell c v ∧ ROpt (Vis H ρ h) ρ (lm.lookup x) v

noncomputable def Post (g : Gd) (H W : List Addr) (ρ : List Addr) (s : Shared) (P : AV → List Cell → Prop) (v : Value) (s' : Shared) : Prop :=
  ∃ a μ' ρ', P a μ' ∧ Base g H μ' ρ' s' ∧ Ext W ρ ρ' s s' ∧ RV (Vis H ρ' s'.heap) ρ' a v

/-- An expression of a def (or of a comprehension in it). -/
noncomputable def Ev (g : Gd) (n : Nat) (sc : Scope) (e : Expr) (lm : Lm) (μ : List Cell) (P : AV → List Cell → Prop) : Prop :=
  ∀ (A : Around) (env : Env) (H ρ : List Addr) (s : Shared) (E : Value → Shared → Prop), OkA n A → EnvOk sc env H → Base g H μ ρ s → FrameAt env lm H ρ s.heap →
    wpAny (model g.prog g.w) A (eval e env) (Post g H [] ρ s P) E s

/-- A test. -/
noncomputable def Tst (g : Gd) (n : Nat) (sc : Scope) (e : Expr) (lm : Lm) (μ : List Cell) (P : Bool → List Cell → Prop) : Prop :=
  ∀ (A : Around) (env : Env) (H ρ : List Addr) (s : Shared) (E : Value → Shared → Prop), OkA n A → EnvOk sc env H → Base g H μ ρ s → FrameAt env lm H ρ s.heap →
    wpAny (model g.prog g.w) A (isTrue e env (eval e env)) (fun b s' => ∃ μ' ρ', P b μ' ∧ Base g H μ' ρ' s' ∧ Ext [] ρ ρ' s s') E s

/-- A call of a value. -/
noncomputable def Call (g : Gd) (n : Nat) (f : Value) (args : List AV) (μ : List Cell) (P : AV → List Cell → Prop) : Prop :=
  ∀ (A : Around) (H ρ : List Addr) (s : Shared) (vs : List Value) (E : Value → Shared → Prop), OkA n A → Base g H μ ρ s → RVs (Vis H ρ s.heap) ρ args vs →
    wpAny (model g.prog g.w) A (call f vs) (Post g H [] ρ s P) E s

/-- the same, as code -/
noncomputable def CallC (g : Gd) (n : Nat) (f : Value) (args : List AV) (μ : List Cell) (P : AV → List Cell → Prop) : Prop :=
  ∀ (A : Around) (H ρ : List Addr) (s : Shared) (vs : List Value) (R : Result → Shared → Prop), OkA n A → Base g H μ ρ s → RVs (Vis H ρ s.heap) ρ args vs → (∀ v s', Post g H [] ρ s P v s' → R (.ok (.ret v)) s') →
    codeAny (model g.prog g.w) A (.call f ⟨vs, []⟩) R s
theorem CallC.toCall {g : Gd} {n : Nat} {f : Value} {args : List AV} {μ : List Cell} {P : AV → List Cell → Prop} (h : CallC g n f args μ P) : Call g n f args μ P :=
  fun A H ρ s vs _ hA B r => wpAny_call (h A H ρ s vs _ hA B r fun _ _ p => p)

inductive Fl where
  | next | brk | cont
  | ret (a : AV)

noncomputable def RFl (V : Vw) (ρ : List Addr) : Fl → Flow → Prop
  | .next, .next => True
  | .brk, .brk => True
  | .cont, .cont => True
  | .ret a, .ret v => RV V ρ a v
  | _, _ => False

noncomputable def PostS (g : Gd) (env : Env) (H : List Addr) (ρ : List Addr) (s : Shared) (Q : Fl → Lm → List Cell → Prop) (f : Flow) (s' : Shared) : Prop :=
  ∃ fl lm' μ' ρ', Q fl lm' μ' ∧ Base g H μ' ρ' s' ∧ FrameAt env lm' H ρ' s'.heap ∧ Ext (own env) ρ ρ' s s' ∧ RFl (Vis H ρ' s'.heap) ρ' fl f

structure FnEnv (A : Around) (env : Env) : Prop where
  nd : OwnOk env
  frames : ∃ l, A.frames = some (env :: l)

noncomputable def Exs (g : Gd) (n : Nat) (sc : Scope) (b : List Stmt) (lm : Lm) (μ : List Cell) (Q : Fl → Lm → List Cell → Prop) : Prop :=
  ∀ (A : Around) (env : Env) (H ρ : List Addr) (s : Shared) (E : Value → Shared → Prop), OkA n A → EnvOk sc env H → FnEnv A env → Base g H μ ρ s → FrameAt env lm H ρ s.heap →
    wpAny (model g.prog g.w) A (execs b env) (PostS g env H ρ s Q) E s
noncomputable def Ex (g : Gd) (n : Nat) (sc : Scope) (b : Stmt) (lm : Lm) (μ : List Cell) (Q : Fl → Lm → List Cell → Prop) : Prop :=
  ∀ (A : Around) (env : Env) (H ρ : List Addr) (s : Shared) (E : Value → Shared → Prop), OkA n A → EnvOk sc env H → FnEnv A env → Base g H μ ρ s → FrameAt env lm H ρ s.heap →
    wpAny (model g.prog g.w) A (exec b env) (PostS g env H ρ s Q) E s
end
section
open PySem PySem.Spec PySem.Calls PyProof.Rows PySem.W

theorem KvAt.mono {κ κ' : Type} {R : κ → κ' → Prop} {V V' : Vw} {ρ ρ' : List Addr} (hV : ∀ a o, V a o → V' a o) (hρ : Sub ρ ρ') : ∀ {l : List (κ × AV)} {l' : List (κ' × Value)}, KvAt R V ρ l l' → KvAt R V' ρ' l l'
  | [], [], _ => trivial
  | (_, _) :: _, (_, _) :: _, ⟨h1, h2, h3⟩ => ⟨h1, h2.mono hV hρ, KvAt.mono hV hρ h3⟩
  | [], _ :: _, h => h.elim
  | _ :: _, [], h => h.elim

theorem CellAt.keeps {g : Gd} {V V' : Vw} {ρ ρ' : List Addr} {h h' : Heap} {a : Addr} {c : Cell} (hV : ∀ a o, V a o → V' a o) (hρ : Sub ρ ρ') (hk : ∀ o, h.get? a = some o → h'.get? a = some o) (C : CellAt g V ρ h a c) : CellAt g V' ρ' h' a c := by
  cases c with
  | lst l =>
    obtain ⟨its, n, hl, hr⟩ := C
    exact ⟨its, n, hk _ hl, hr.mono hV hρ⟩
  | dI kvs ep =>
    obtain ⟨kv', hd, hr⟩ := C
    exact ⟨kv', hd.at' hk, hr.mono hV hρ⟩
  | dS kvs =>
    obtain ⟨kv', hd, hr⟩ := C
    exact ⟨kv', hd.at hk, hr.mono hV hρ⟩
  | att kvs =>
    obtain ⟨m, hn, hr, hw⟩ := C
    exact ⟨m, hn.at hk, fun x => (hr x).mono hV hρ, hw⟩

theorem CellAt.there {g : Gd} {V : Vw} {ρ : List Addr} {h : Heap} {a : Addr} {c : Cell} (C : CellAt g V ρ h a c) : ∃ o, h.get? a = some o := by
  cases c with
  | lst l => obtain ⟨_, _, ho, _⟩ := C; exact ⟨_, ho⟩
  | dI kvs ep => obtain ⟨_, ⟨o, _, ho, _⟩, _⟩ := C; exact ⟨o, ho⟩
  | dS kvs => obtain ⟨_, ⟨o, _, _, ho, _⟩, _⟩ := C; exact ⟨o, ho⟩
  | att kvs => obtain ⟨m, ⟨o, _, _, ho, _⟩, _⟩ := C; exact ⟨o, ho⟩

section
variable {g : Gd} {H ρ ρ' : List Addr} {μ : List Cell} {s s' : Shared}

theorem Base.cellOf (B : Base g H μ ρ s) {i : Nat} {c : Cell} (h : μ[i]? = some c) : ∃ a, ρ[i]? = some a ∧ CellAt g (Vis H ρ s.heap) ρ s.heap a c := by
  have hl : i < μ.length := by
    rcases Nat.lt_or_ge i μ.length with q | q
    · exact q
    · rw [List.getElem?_eq_none q] at h; cases h
  have hl' : i < ρ.length := B.len ▸ hl
  exact ⟨ρ[i], List.getElem?_eq_getElem hl', B.cell i c _ h (List.getElem?_eq_getElem hl')⟩
theorem Base.thereρ (B : Base g H μ ρ s) {a : Addr} (h : a ∈ ρ) : ∃ o, s.heap.get? a = some o := by
  obtain ⟨i, hi, rfl⟩ := List.getElem_of_mem h
  have hm : i < μ.length := B.len ▸ hi
  exact (B.cell i μ[i] ρ[i] (List.getElem?_eq_getElem hm) (List.getElem?_eq_getElem hi)).there
theorem Base.ltρ (B : Base g H μ ρ s) {a : Addr} (h : a ∈ ρ) : a < s.heap.objs.size := let ⟨_, e⟩ := B.thereρ h; Heap.lt_size e
theorem Base.ltH (B : Base g H μ ρ s) {a : Addr} (h : a ∈ H) : a < s.heap.objs.size := let ⟨_, e⟩ := B.lt a h; Heap.lt_size e
theorem Base.freshρ (B : Base g H μ ρ s) : s.heap.objs.size ∉ ρ := fun h => Nat.lt_irrefl _ (B.ltρ h)
theorem Base.freshH (B : Base g H μ ρ s) : s.heap.objs.size ∉ H := fun h => Nat.lt_irrefl _ (B.ltH h)
theorem Base.disH (B : Base g H μ ρ s) {a : Addr} (h : a ∈ H) : a ∉ ρ := fun q => B.dis a q h

theorem Ext.kp {W : List Addr} (hk : ∀ b o, b ∉ W → s.heap.get? b = some o → s'.heap.get? b = some o) (hth : ∀ b ∈ W, (∃ o, s.heap.get? b = some o) → ∃ o, s'.heap.get? b = some o) (hg : s'.gens = s.gens) (ho : s'.os = s.os) : Ext W ρ ρ s s' :=
  ⟨Sub.refl _, fun b o h1 h2 e => ⟨hk b o h1 e, h2⟩, hth, hg, ho⟩
theorem Ext.keeps (hk : ∀ b o, s.heap.get? b = some o → s'.heap.get? b = some o) (hg : s'.gens = s.gens) (ho : s'.os = s.os) : Ext [] ρ ρ s s' :=
  Ext.kp (fun b o _ e => hk b o e) (fun _ q => nomatch q) hg ho

theorem Base.kp {W : List Addr} (B : Base g H μ ρ s) (hW : ∀ a ∈ W, a ∈ H) (hk : ∀ b o, b ∉ W → s.heap.get? b = some o → s'.heap.get? b = some o) (hth : ∀ b ∈ W, ∃ o, s'.heap.get? b = some o) : Base g H μ ρ s' where
  ok := B.ok
  old := fun b o e => let z := B.old b o e; ⟨hk b o (fun q => z.2.1 (hW b q)) z.1, z.2⟩
  len := B.len
  nd := B.nd
  dis := B.dis
  sys := B.sys
  lt := fun a ha => (Classical.em (a ∈ W)).elim (fun q => hth a q) fun q => let ⟨o, e⟩ := B.lt a ha; ⟨o, hk a o q e⟩
  cell := fun i c a hc ha => (B.cell i c a hc ha).keeps (fun b o z => ⟨hk b o (fun q => z.2.1 (hW b q)) z.1, z.2⟩) (Sub.refl _) fun o e => hk a o (fun q => B.dis a (List.mem_of_getElem? ha) (hW a q)) e
theorem Base.keeps (B : Base g H μ ρ s) (hk : ∀ b o, s.heap.get? b = some o → s'.heap.get? b = some o) : Base g H μ ρ s' :=
  B.kp (W := []) (fun _ q => nomatch q) (fun b o _ e => hk b o e) fun _ q => nomatch q

/-- A new mutable place. -/
theorem Base.new (B : Base g H μ ρ s) {a : Addr} {c : Cell} (hk : ∀ b o, s.heap.get? b = some o → s'.heap.get? b = some o) (hz : s.heap.objs.size ≤ a) (hC : CellAt g (Vis H (ρ ++ [a]) s'.heap) (ρ ++ [a]) s'.heap a c) : Base g H (μ ++ [c]) (ρ ++ [a]) s' := by
  have hne : ∀ b o, s.heap.get? b = some o → b ≠ a := fun b o e q => absurd (Heap.lt_size e) (Nat.not_lt.mpr (q ▸ hz))
  have hsys : (a == sysModules) = false := by
    have h1 := (B.ok.gl.keeps fun b o e => (B.old b o e).1).lt
    have : sysModules < a := Nat.lt_of_lt_of_le (Nat.lt_of_le_of_lt (by decide) h1) hz
    exact beq_eq_false_iff_ne.mpr (Nat.ne_of_gt this)
  have hv : ∀ b o, Vis H ρ s.heap b o → Vis H (ρ ++ [a]) s'.heap b o := fun b o z => ⟨hk b o z.1, z.2.1, fun q => by
    rcases List.mem_append.mp q with q | q
    · exact z.2.2 q
    · exact hne b o z.1 (List.mem_singleton.mp q)⟩
  have haρ : a ∉ ρ := fun q => by obtain ⟨o, e⟩ := B.thereρ q; exact hne a o e rfl
  have haH : a ∉ H := fun q => by obtain ⟨o, e⟩ := B.lt a q; exact hne a o e rfl
  refine ⟨B.ok, fun b o e => hv b o (B.old b o e), by simp [B.len], ?_, ?_, (fun b hb => (List.mem_append.mp hb).elim (B.sys b) fun q => by rw [List.mem_singleton.mp q]; exact hsys), fun b hb => let ⟨o, e⟩ := B.lt b hb; ⟨o, hk b o e⟩, ?_⟩
  · exact List.nodup_append.mpr ⟨B.nd, (by simp), fun x hx y hy e => haρ (by rw [List.mem_singleton] at hy; rw [← hy, ← e]; exact hx)⟩
  · intro b hb
    rcases List.mem_append.mp hb with q | q
    · exact B.dis b q
    · rw [List.mem_singleton.mp q]; exact haH
  · intro i c' b hc hb
    rcases Nat.lt_or_ge i μ.length with q | q
    · rw [List.getElem?_append_left q] at hc
      rw [List.getElem?_append_left (by rw [B.len]; exact q)] at hb
      exact (B.cell i c' b hc hb).keeps hv (Sub.append _ _) fun o e => hk b o e
    · rw [List.getElem?_append_right q] at hc
      rw [List.getElem?_append_right (by rw [B.len]; exact q), B.len] at hb
      have hi : i - μ.length = 0 := by
        rcases Nat.eq_zero_or_pos (i - μ.length) with z | z
        · exact z
        · rw [List.getElem?_eq_none (by simp; omega)] at hc; cases hc
      rw [hi] at hc hb
      simp at hc hb
      subst hc hb
      exact hC
theorem Ext.new {a : Addr} (hk : ∀ b o, s.heap.get? b = some o → s'.heap.get? b = some o) (ha : s.heap.get? a = none) (hg : s'.gens = s.gens) (ho : s'.os = s.os) : Ext [] ρ (ρ ++ [a]) s s' :=
  ⟨Sub.append _ _, fun b o _ h2 e => ⟨hk b o e, fun q => by
    rcases List.mem_append.mp q with q | q
    · exact h2 q
    · rw [List.mem_singleton.mp q, ha] at e; cases e⟩, (fun _ q => nomatch q), hg, ho⟩

/-- A mutable place changes. -/
theorem Base.set (B : Base g H μ ρ s) {i : Nat} {a : Addr} {c : Cell} (ha : ρ[i]? = some a) (hk : ∀ b o, b ≠ a → s.heap.get? b = some o → s'.heap.get? b = some o)
    (hC : CellAt g (Vis H ρ s'.heap) ρ s'.heap a c) : Base g H (μ.set i c) ρ s' := by
  have hm := List.mem_of_getElem? ha
  have hv : ∀ b o, Vis H ρ s.heap b o → Vis H ρ s'.heap b o := fun b o z => ⟨hk b o (fun q => z.2.2 (q ▸ hm)) z.1, z.2⟩
  refine ⟨B.ok, fun b o e => hv b o (B.old b o e), by simp [B.len], B.nd, B.dis, B.sys, fun b hb => let ⟨o, e⟩ := B.lt b hb; ⟨o, hk b o (fun q => B.dis a hm (q ▸ hb)) e⟩, ?_⟩
  intro j c' b hc hb
  rw [List.getElem?_set] at hc
  by_cases hij : i = j
  · subst hij
    rw [ha] at hb
    cases hb
    have hl : i < μ.length := by
      rcases Nat.lt_or_ge i ρ.length with q | q
      · rw [B.len] at q; exact q
      · rw [List.getElem?_eq_none q] at ha; cases ha
    simp [hl] at hc
    subst hc
    exact hC
  · rw [if_neg hij] at hc
    have hne : b ≠ a := fun q => by
      subst q
      have hi : i < ρ.length := by
        rcases Nat.lt_or_ge i ρ.length with q | q
        · exact q
        · rw [List.getElem?_eq_none q] at ha; cases ha
      exact hij ((List.getElem?_inj hi B.nd).mp (ha.trans hb.symm))
    exact (B.cell j c' b hc hb).keeps hv (Sub.refl _) fun o e => hk b o hne e
theorem Ext.set {i : Nat} {a : Addr} (ha : ρ[i]? = some a) (hk : ∀ b o, b ≠ a → s.heap.get? b = some o → s'.heap.get? b = some o) (hg : s'.gens = s.gens) (ho : s'.os = s.os) : Ext [] ρ ρ s s' :=
  ⟨Sub.refl _, fun b o _ h2 e => ⟨hk b o (fun q => h2 (q ▸ List.mem_of_getElem? ha)) e, h2⟩, (fun _ q => nomatch q), hg, ho⟩

theorem FrameAt.ext {W : List Addr} {env : Env} {lm : Lm} {sc : Scope} (F : FrameAt env lm H ρ s.heap) (B : Base g H μ ρ s) (O : EnvOk sc env H) (x : Ext W ρ ρ' s s') (hW : ∀ a ∈ W, a ∈ H) (hl : env.locals ∉ W) (hc : ∀ a ∈ ocells env, a ∉ W) : FrameAt env lm H ρ' s'.heap := by
  refine ⟨?_, ?_⟩
  · obtain ⟨m, ⟨o, es, ep, ho, r⟩, hm⟩ := F.ns
    exact ⟨m, ⟨o, es, ep, (x.keep _ o hl (B.disH O.loc) ho).1, r⟩, fun y hy => (hm y hy).mono (x.vis hW) x.pre⟩
  · intro y hy
    obtain ⟨c, v, h1, ⟨o, ho, hd⟩, h3⟩ := F.cells y hy
    exact ⟨c, v, h1, ⟨o, (x.keep _ o (hc _ (ocells_in (PySem.mem_of_lookup h1) hy)) (B.disH (O.cells _ (ocells_in (PySem.mem_of_lookup h1) hy))) ho).1, hd⟩, h3.mono (x.vis hW) x.pre⟩
theorem FrameAt.ext0 {env : Env} {lm : Lm} {sc : Scope} (F : FrameAt env lm H ρ s.heap) (B : Base g H μ ρ s) (O : EnvOk sc env H) (x : Ext [] ρ ρ' s s') : FrameAt env lm H ρ' s'.heap :=
  F.ext B O x (fun _ q => nomatch q) (fun q => nomatch q) fun _ _ q => nomatch q

theorem FrameAt.weaken {env : Env} {lm lm' : Lm} {h : Heap} (F : FrameAt env lm H ρ h) (hl : ∀ x a, lm'.lookup x = some a → lm.lookup x = some a) : FrameAt env lm' H ρ h := by
  obtain ⟨⟨m, hm, hr⟩, hc⟩ := F
  refine ⟨⟨m, hm, fun x hx => ?_⟩, fun x hx => ?_⟩
  · cases e : lm'.lookup x with
    | none => trivial
    | some a => have := hr x hx; rw [hl x a e] at this; exact this
  · obtain ⟨c, v, h1, h2, h3⟩ := hc x hx
    refine ⟨c, v, h1, h2, ?_⟩
    cases e : lm'.lookup x with
    | none => trivial
    | some a => rw [hl x a e] at h3; exact h3
end

theorem OkA.in1 {n : Nat} {A : Around} (h : OkA (n + 1) A) : OkA n A.in1 := ⟨h.handled, by have := h.depth; simp; omega, by have := h.units; simp; omega, h.frames⟩
theorem OkA.le {n m : Nat} {A : Around} (h : OkA n A) (hm : m ≤ n) : OkA m A := ⟨h.handled, by have := h.depth; omega, by have := h.units; omega, h.frames⟩
theorem OkA.deeper {n : Nat} {A : Around} {env : Env} (h : OkA (n + 1) A) : OkA n (A.deeper env) :=
  ⟨h.handled, by have := h.depth; show A.depth + 1 + n < _; omega, by have := h.units; simp; omega, by obtain ⟨l, hl⟩ := h.frames; exact ⟨env :: l, by simp [Around.deeper, hl]⟩⟩
theorem OkA.room {n : Nat} {A : Around} (h : OkA n A) : A.depth < recursionLimit := by have := h.depth; omega
theorem OkA.cl {n : Nat} {A : Around} (h : OkA n A) : A.units < cLine := by have := h.units; omega
theorem OkA.cl1 {n : Nat} {A : Around} (h : OkA n A) : A.in1.units < cLine := by have := h.units; simp; omega
theorem OkA.cl2 {n : Nat} {A : Around} (h : OkA n A) : A.in1.in1.units < cLine := by have := h.units; simp; omega

section
variable {g : Gd} {n : Nat} {sc : Scope} {lm : Lm} {μ : List Cell}

theorem Ev.mono {e : Expr} {P P' : AV → List Cell → Prop} (h : Ev g n sc e lm μ P) (hP : ∀ a μ, P a μ → P' a μ) : Ev g n sc e lm μ P' :=
  fun A env H ρ s E hA O B F => wpAny_mono (h A env H ρ s E hA O B F) (fun _ _ ⟨a, μ', ρ', p, r⟩ => ⟨a, μ', ρ', hP _ _ p, r⟩) fun _ _ x => x
theorem Call.mono {f : Value} {args : List AV} {P P' : AV → List Cell → Prop} (h : Call g n f args μ P) (hP : ∀ a μ, P a μ → P' a μ) : Call g n f args μ P' :=
  fun A H ρ s vs E hA B R => wpAny_mono (h A H ρ s vs E hA B R) (fun _ _ ⟨a, μ', ρ', p, r⟩ => ⟨a, μ', ρ', hP _ _ p, r⟩) fun _ _ x => x
theorem Call.le {f : Value} {args : List AV} {P : AV → List Cell → Prop} {m : Nat} (h : Call g m f args μ P) (hm : m ≤ n) : Call g n f args μ P :=
  fun A H ρ s vs E hA B R => h A H ρ s vs E (hA.le hm) B R
theorem Tst.mono {e : Expr} {P P' : Bool → List Cell → Prop} (h : Tst g n sc e lm μ P) (hP : ∀ a μ, P a μ → P' a μ) : Tst g n sc e lm μ P' :=
  fun A env H ρ s E hA O B F => wpAny_mono (h A env H ρ s E hA O B F) (fun _ _ ⟨μ', ρ', p, r⟩ => ⟨μ', ρ', hP _ _ p, r⟩) fun _ _ x => x
theorem Exs.mono {b : List Stmt} {Q Q' : Fl → Lm → List Cell → Prop} (h : Exs g n sc b lm μ Q) (hQ : ∀ f l μ, Q f l μ → Q' f l μ) : Exs g n sc b lm μ Q' :=
  fun A env H ρ s E hA O Fn B F => wpAny_mono (h A env H ρ s E hA O Fn B F) (fun _ _ ⟨fl, lm', μ', ρ', q, r⟩ => ⟨fl, lm', μ', ρ', hQ _ _ _ q, r⟩) fun _ _ x => x
theorem Ex.mono {b : Stmt} {Q Q' : Fl → Lm → List Cell → Prop} (h : Ex g n sc b lm μ Q) (hQ : ∀ f l μ, Q f l μ → Q' f l μ) : Ex g n sc b lm μ Q' :=
  fun A env H ρ s E hA O Fn B F => wpAny_mono (h A env H ρ s E hA O Fn B F) (fun _ _ ⟨fl, lm', μ', ρ', q, r⟩ => ⟨fl, lm', μ', ρ', hQ _ _ _ q, r⟩) fun _ _ x => x

/-- the end of an expression that changes nothing but fresh objects -/
theorem Post.here {H ρ : List Addr} {s s' : Shared} {P : AV → List Cell → Prop} {a : AV} {v : Value} (p : P a μ) (B : Base g H μ ρ s) (hk : ∀ b o, s.heap.get? b = some o → s'.heap.get? b = some o) (hg : s'.gens = s.gens) (ho : s'.os = s.os)
    (hr : RV (Vis H ρ s'.heap) ρ a v) : Post g H [] ρ s P v s' := ⟨a, μ, ρ, p, B.keeps hk, Ext.keeps hk hg ho, hr⟩

theorem Post.after {H W ρ ρ' : List Addr} {s s' s'' : Shared} {P : AV → List Cell → Prop} {v : Value} (x : Ext W ρ ρ' s s') (h : Post g H W ρ' s' P v s'') : Post g H W ρ s P v s'' := by
  obtain ⟨a, μ', ρ'', p, B, y, r⟩ := h
  exact ⟨a, μ', ρ'', p, B, x.trans y, r⟩

theorem Ev.cInt {i : Int} {k : Nat} {pos : Pos} {P : AV → List Cell → Prop} (p : P (.int i) μ) : Ev g n sc (.Constant (.int i) k pos) lm μ P := by
  intro A env H ρ s E hA O B F
  exact wpAny_Constant_int (.here p B (fun _ _ e => e) rfl rfl (.int i _))
theorem Ev.cNone {k : Nat} {pos : Pos} {P : AV → List Cell → Prop} (p : P .none μ) : Ev g n sc (.Constant .none k pos) lm μ P := by
  intro A env H ρ s E hA O B F
  exact wpAny_pure (.here p B (fun _ _ e => e) rfl rfl .none)
theorem Ev.cBool {b : Bool} {k : Nat} {pos : Pos} {P : AV → List Cell → Prop} (p : P (.bool b) μ) : Ev g n sc (.Constant (.bool b) k pos) lm μ P := by
  intro A env H ρ s E hA O B F
  exact wpAny_pure (.here p B (fun _ _ e => e) rfl rfl (.bool b))
theorem Ev.cStr {x : String} {k : Nat} {pos : Pos} {P : AV → List Cell → Prop} (p : P (.str x) μ) : Ev g n sc (.Constant (.str (Str.ofString x)) k pos) lm μ P := by
  intro A env H ρ s E hA O B F
  exact Calls.Constant_str (.here p B (fun _ _ e => e) rfl rfl (.str x _))

theorem Ev.name {x : String} {pos : Pos} {a : AV} {P : AV → List Cell → Prop} (hx : sc.names.lookup (Str.ofString x) = some .local) (hl : lm.lookup x = some a) (p : P a μ) (hd : (Str.ofString x == ("__debug__" : Str)) = false := by decide) : Ev g n sc (.Name (Str.ofString x) pos) lm μ P := by
  intro A env H ρ s E hA O B F
  obtain ⟨m, hm, hr⟩ := F.ns
  have hk : env.kindOf (Str.ofString x) = some .local := by show env.scope.names.lookup _ = _; rw [O.scope]; exact hx
  have := hr x hk
  rw [hl] at this
  cases hv : m (Str.ofString x) with
  | none => rw [hv] at this; exact this.elim
  | some v =>
    rw [hv] at this
    exact wpAny_Name (wpAny_loadName_local (by rw [O.scope]; exact O.kind) hk hm hv (.here p B (fun _ _ e => e) rfl rfl this)) hd
theorem Ev.nameC {x : String} {pos : Pos} {a : AV} {P : AV → List Cell → Prop} (hx : sc.names.lookup (Str.ofString x) = some .cell) (hl : lm.lookup x = some a) (p : P a μ) (hd : (Str.ofString x == ("__debug__" : Str)) = false := by decide) : Ev g n sc (.Name (Str.ofString x) pos) lm μ P := by
  intro A env H ρ s E hA O B F
  have hk : env.kindOf (Str.ofString x) = some .cell := by show env.scope.names.lookup _ = _; rw [O.scope]; exact hx
  obtain ⟨c, v, h1, h2, h3⟩ := F.cells x hk
  rw [hl] at h3
  cases v with
  | none => exact h3.elim
  | some v =>
  exact wpAny_Name (wpAny_loadName_cell (by rw [O.scope]; exact O.kind) hk h1 h2 (.here p B (fun _ _ e => e) rfl rfl h3)) hd

theorem Base.gl {H ρ : List Addr} {s : Shared} (B : Base g H μ ρ s) : s.heap.Ns mainGlobals g.mg := B.ok.gl.keeps fun b o e => (B.old b o e).1
theorem Base.bl {H ρ : List Addr} {s : Shared} (B : Base g H μ ρ s) : s.heap.Ns builtinsNs g.mb := B.ok.bl.keeps fun b o e => (B.old b o e).1
theorem Base.K {H ρ : List Addr} {s : Shared} (B : Base g H μ ρ s) : g.K.In s.heap := B.ok.K.keeps fun b o e => (B.old b o e).1
theorem Base.nolimit {H ρ : List Addr} {s : Shared} (B : Base g H μ ρ s) : s.heap.NoLimit := B.ok.nolimit.keeps fun b o e => (B.old b o e).1

theorem Ev.nameG {x : String} {pos : Pos} {v : Value} {P : AV → List Cell → Prop} (hx : sc.names.lookup (Str.ofString x) = some .globalImplicit) (e : nsIn g.K mainGlobals (Str.ofString x) = some (some v)) (p : P (.raw v) μ) (hd : (Str.ofString x == ("__debug__" : Str)) = false := by decide) : Ev g n sc (.Name (Str.ofString x) pos) lm μ P := by
  intro A env H ρ s E hA O B F
  have hk : env.kindOf (Str.ofString x) = some .globalImplicit := by show env.scope.names.lookup _ = _; rw [O.scope]; exact hx
  exact Name_function_global (by rw [O.scope]; exact O.kind) hk (loadGlobal_global (by rw [O.glob]; exact B.gl) (mg_of B.ok.K B.ok.gl e) (.here p B (fun _ _ e => e) rfl rfl (.raw v))) hd
theorem Ev.nameB {x : String} {pos : Pos} {v : Value} {P : AV → List Cell → Prop} (hx : sc.names.lookup (Str.ofString x) = some .globalImplicit) (e : nsIn g.K mainGlobals (Str.ofString x) = some none) (hv : bootBuiltins (Str.ofString x) = some v) (p : P (.raw v) μ) (hn : Str.ofString x ≠ "__name__" := by decide) (hd : (Str.ofString x == ("__debug__" : Str)) = false := by decide) : Ev g n sc (.Name (Str.ofString x) pos) lm μ P := by
  intro A env H ρ s E hA O B F
  have hk : env.kindOf (Str.ofString x) = some .globalImplicit := by show env.scope.names.lookup _ = _; rw [O.scope]; exact hx
  exact Name_function_global (by rw [O.scope]; exact O.kind) hk (loadGlobal_builtin (by rw [O.glob]; exact B.gl) (mg_none_of B.ok.K B.ok.gl e) (by rw [O.blt]; exact B.bl) ((B.ok.builtins _ hn).trans hv) (.here p B (fun _ _ e => e) rfl rfl (.raw v))) hd
end
end
section
open PySem PySem.Spec PySem.Calls PyProof.Rows PySem.W

section
variable (g : Gd) (n : Nat)
noncomputable def BinV (op : Operator) (a b : AV) (μ : List Cell) (P : AV → List Cell → Prop) : Prop :=
  ∀ (A : Around) (H ρ : List Addr) (s : Shared) (va vb : Value) (E : Value → Shared → Prop), OkA n A → Base g H μ ρ s → RV (Vis H ρ s.heap) ρ a va → RV (Vis H ρ s.heap) ρ b vb →
    wpAny (model g.prog g.w) A (binaryOp op va vb) (Post g H [] ρ s P) E s
noncomputable def UnV (op : UnaryOp) (a : AV) (μ : List Cell) (P : AV → List Cell → Prop) : Prop :=
  ∀ (A : Around) (H ρ : List Addr) (s : Shared) (va : Value) (E : Value → Shared → Prop), OkA n A → Base g H μ ρ s → RV (Vis H ρ s.heap) ρ a va →
    wpAny (model g.prog g.w) A (unaryOp op va) (Post g H [] ρ s P) E s
noncomputable def CmpV (op : CmpOp) (a b : AV) (μ : List Cell) (P : AV → List Cell → Prop) : Prop :=
  ∀ (A : Around) (H ρ : List Addr) (s : Shared) (va vb : Value) (E : Value → Shared → Prop), OkA n A → Base g H μ ρ s → RV (Vis H ρ s.heap) ρ a va → RV (Vis H ρ s.heap) ρ b vb →
    wpAny (model g.prog g.w) A (compareOp op va vb) (Post g H [] ρ s P) E s
noncomputable def TruV (a : AV) (μ : List Cell) (P : Bool → List Cell → Prop) : Prop :=
  ∀ (A : Around) (H ρ : List Addr) (s : Shared) (va : Value) (E : Value → Shared → Prop), OkA n A → Base g H μ ρ s → RV (Vis H ρ s.heap) ρ a va →
    wpAny (model g.prog g.w) A (truthy va) (fun b s' => ∃ μ' ρ', P b μ' ∧ Base g H μ' ρ' s' ∧ Ext [] ρ ρ' s s') E s
noncomputable def SubV (value slice : Expr) (a b : AV) (μ : List Cell) (P : AV → List Cell → Prop) : Prop :=
  ∀ (A : Around) (H ρ : List Addr) (s : Shared) (va vb : Value) (E : Value → Shared → Prop), OkA n A → Base g H μ ρ s → RV (Vis H ρ s.heap) ρ a va → RV (Vis H ρ s.heap) ρ b vb →
    wpAny (model g.prog g.w) A (subscriptTail value slice va vb) (Post g H [] ρ s P) E s
noncomputable def GetV (x : Str) (a : AV) (μ : List Cell) (P : AV → List Cell → Prop) : Prop :=
  ∀ (A : Around) (H ρ : List Addr) (s : Shared) (va : Value) (E : Value → Shared → Prop), OkA n A → Base g H μ ρ s → RV (Vis H ρ s.heap) ρ a va →
    wpAny (model g.prog g.w) A (getAttr va x true) (Post g H [] ρ s P) E s
/-- several expressions, one behind the other -/
noncomputable def Evs (sc : Scope) (es : List Expr) (lm : Lm) (μ : List Cell) (P : List AV → List Cell → Prop) : Prop :=
  ∀ (A : Around) (env : Env) (H ρ : List Addr) (s : Shared) (pos : Pos) (E : Value → Shared → Prop), OkA n A → EnvOk sc env H → Base g H μ ρ s → FrameAt env lm H ρ s.heap →
    wpAny (model g.prog g.w) A (spliced (backTo pos (starEach es env))) (fun vs s' => ∃ l μ' ρ', P l μ' ∧ Base g H μ' ρ' s' ∧ Ext [] ρ ρ' s s' ∧ RVs (Vis H ρ' s'.heap) ρ' l vs) E s
end

section
variable {g : Gd} {n : Nat} {sc : Scope} {lm : Lm} {μ : List Cell} {P : AV → List Cell → Prop}

theorem Ev.bin {op : Operator} {l r : Expr} {pos : Pos} (h : Ev g n sc l lm μ fun a μ₁ => Ev g n sc r lm μ₁ fun b μ₂ => BinV g n op a b μ₂ P) : Ev g n sc (.BinOp l op r pos) lm μ P := by
  intro A env H ρ s E hA O B F
  refine wpAny_BinOp (wpAny_mono (h A env H ρ s E hA O B F) ?_ fun _ _ x => x)
  rintro va s₁ ⟨a, μ₁, ρ₁, h₁, B₁, x₁, r₁⟩
  refine wpAny_mono (h₁ A env H ρ₁ s₁ E hA O B₁ (F.ext0 B O x₁)) ?_ fun _ _ x => x
  rintro vb s₂ ⟨b, μ₂, ρ₂, h₂, B₂, x₂, r₂⟩
  exact wpAny_mono (h₂ A H ρ₂ s₂ va vb E hA B₂ (x₂.rv0 r₁) r₂) (fun _ _ z => z.after (x₁.trans x₂)) fun _ _ x => x
theorem Ev.un {op : UnaryOp} {e : Expr} {pos : Pos} (h : Ev g n sc e lm μ fun a μ₁ => UnV g n op a μ₁ P) : Ev g n sc (.UnaryOp op e pos) lm μ P := by
  intro A env H ρ s E hA O B F
  refine UnaryOp_ (wpAny_mono (h A env H ρ s E hA O B F) ?_ fun _ _ x => x)
  rintro va s₁ ⟨a, μ₁, ρ₁, h₁, B₁, x₁, r₁⟩
  exact wpAny_mono (h₁ A H ρ₁ s₁ va E hA B₁ r₁) (fun _ _ z => z.after x₁) fun _ _ x => x
theorem Ev.cmp {op : CmpOp} {l r : Expr} {pos : Pos} (h : Ev g n sc l lm μ fun a μ₁ => Ev g n sc r lm μ₁ fun b μ₂ => CmpV g n op a b μ₂ P) (hm : behindInMarks op r = false := by with_unfolding_all rfl) : Ev g n sc (.Compare l [op] [r] pos) lm μ P := by
  intro A env H ρ s E hA O B F
  refine wpAny_Compare1 (wpAny_mono (h A env H ρ s E hA O B F) ?_ fun _ _ x => x) hm
  rintro va s₁ ⟨a, μ₁, ρ₁, h₁, B₁, x₁, r₁⟩
  refine wpAny_mono (h₁ A env H ρ₁ s₁ E hA O B₁ (F.ext0 B O x₁)) ?_ fun _ _ x => x
  rintro vb s₂ ⟨b, μ₂, ρ₂, h₂, B₂, x₂, r₂⟩
  exact wpAny_mono (h₂ A H ρ₂ s₂ va vb E hA B₂ (x₂.rv0 r₁) r₂) (fun _ _ z => z.after (x₁.trans x₂)) fun _ _ x => x
theorem Ev.sub {value slice : Expr} {pos : Pos} (h : Ev g n sc value lm μ fun a μ₁ => Ev g n sc slice lm μ₁ fun b μ₂ => SubV g n value slice a b μ₂ P) : Ev g n sc (.Subscript value slice pos) lm μ P := by
  intro A env H ρ s E hA O B F
  refine PyProof.Rows.Subscript_ (wpAny_mono (h A env H ρ s E hA O B F) ?_ fun _ _ x => x)
  rintro va s₁ ⟨a, μ₁, ρ₁, h₁, B₁, x₁, r₁⟩
  refine wpAny_mono (h₁ A env H ρ₁ s₁ E hA O B₁ (F.ext0 B O x₁)) ?_ fun _ _ x => x
  rintro vb s₂ ⟨b, μ₂, ρ₂, h₂, B₂, x₂, r₂⟩
  exact wpAny_mono (h₂ A H ρ₂ s₂ va vb E hA B₂ (x₂.rv0 r₁) r₂) (fun _ _ z => z.after (x₁.trans x₂)) fun _ _ x => x
theorem Ev.attr {value : Expr} {x : Str} {pos : Pos} (h : Ev g n sc value lm μ fun a μ₁ => GetV g n x a μ₁ P)
    (he : ∀ env, eval (.Attribute value x pos) env = (do
      let o ← eval value env
      standAt pos.atName
      let r ← holding [o] (getAttr o x true)
      letTemporaryGo value o r
      pure r) := by intro _; with_unfolding_all rfl) : Ev g n sc (.Attribute value x pos) lm μ P := by
  intro A env H ρ s E hA O B F
  refine Attribute_any_ (wpAny_mono (h A env H ρ s E hA O B F) ?_ fun _ _ x => x) (he env)
  rintro va s₁ ⟨a, μ₁, ρ₁, h₁, B₁, x₁, r₁⟩
  exact wpAny_mono (h₁ A H ρ₁ s₁ va E hA B₁ r₁) (fun _ _ z => z.after x₁) fun _ _ x => x

theorem Ev.ite {test body orelse : Expr} {pos : Pos} (h : Tst g n sc test lm μ fun b μ₁ => (b = true → Ev g n sc body lm μ₁ P) ∧ (b = false → Ev g n sc orelse lm μ₁ P)) : Ev g n sc (.IfExp test body orelse pos) lm μ P := by
  intro A env H ρ s E hA O B F
  refine IfExp_ (wpAny_mono (h A env H ρ s E hA O B F) ?_ fun _ _ x => x)
  rintro b s₁ ⟨μ₁, ρ₁, ⟨ht, hf⟩, B₁, x₁⟩
  cases b with
  | true => exact wpAny_mono (ht rfl A env H ρ₁ s₁ E hA O B₁ (F.ext0 B O x₁)) (fun _ _ z => z.after x₁) fun _ _ x => x
  | false => exact wpAny_mono (hf rfl A env H ρ₁ s₁ E hA O B₁ (F.ext0 B O x₁)) (fun _ _ z => z.after x₁) fun _ _ x => x
theorem Ev.and {e₁ e₂ : Expr} {rest : List Expr} {pos : Pos} (h : Ev g n sc e₁ lm μ fun a μ₁ => TruV g n a μ₁ fun b μ₂ => (b = true → Ev g n sc (.BoolOp .And (e₂ :: rest) pos) lm μ₂ P) ∧ (b = false → P a μ₂)) : Ev g n sc (.BoolOp .And (e₁ :: e₂ :: rest) pos) lm μ P := by
  intro A env H ρ s E hA O B F
  refine BoolOp_and (wpAny_mono (h A env H ρ s E hA O B F) ?_ fun _ _ x => x)
  rintro va s₁ ⟨a, μ₁, ρ₁, h₁, B₁, x₁, r₁⟩
  refine wpAny_mono (h₁ A H ρ₁ s₁ va E hA B₁ r₁) ?_ fun _ _ x => x
  rintro b s₂ ⟨μ₂, ρ₂, ⟨ht, hf⟩, B₂, x₂⟩
  cases b with
  | true => exact wpAny_mono (ht rfl A env H ρ₂ s₂ E hA O B₂ (F.ext0 B O (x₁.trans x₂))) (fun _ _ z => z.after (x₁.trans x₂)) fun _ _ x => x
  | false => exact ⟨a, μ₂, ρ₂, hf rfl, B₂, x₁.trans x₂, x₂.rv0 r₁⟩
theorem Ev.or {e₁ e₂ : Expr} {rest : List Expr} {pos : Pos} (h : Ev g n sc e₁ lm μ fun a μ₁ => TruV g n a μ₁ fun b μ₂ => (b = false → Ev g n sc (.BoolOp .Or (e₂ :: rest) pos) lm μ₂ P) ∧ (b = true → P a μ₂)) : Ev g n sc (.BoolOp .Or (e₁ :: e₂ :: rest) pos) lm μ P := by
  intro A env H ρ s E hA O B F
  refine BoolOp_or (wpAny_mono (h A env H ρ s E hA O B F) ?_ fun _ _ x => x)
  rintro va s₁ ⟨a, μ₁, ρ₁, h₁, B₁, x₁, r₁⟩
  refine wpAny_mono (h₁ A H ρ₁ s₁ va E hA B₁ r₁) ?_ fun _ _ x => x
  rintro b s₂ ⟨μ₂, ρ₂, ⟨hf, ht⟩, B₂, x₂⟩
  cases b with
  | false => exact wpAny_mono (hf rfl A env H ρ₂ s₂ E hA O B₂ (F.ext0 B O (x₁.trans x₂))) (fun _ _ z => z.after (x₁.trans x₂)) fun _ _ x => x
  | true => exact ⟨a, μ₂, ρ₂, ht rfl, B₂, x₁.trans x₂, x₂.rv0 r₁⟩
theorem Ev.one {op : BoolOp} {e : Expr} {pos : Pos} (h : Ev g n sc e lm μ P) : Ev g n sc (.BoolOp op [e] pos) lm μ P := fun A env H ρ s E hA O B F => BoolOp_one (h A env H ρ s E hA O B F)

theorem Tst.plain {e : Expr} {P : Bool → List Cell → Prop} (h : Ev g n sc e lm μ fun a μ₁ => TruV g n a μ₁ P) (he : ∀ env whole, isTrue e env whole = (do let v ← whole; standAt e.pos; holding [v] (truthy v)) := by intro _ _; rfl) : Tst g n sc e lm μ P := by
  intro A env H ρ s E hA O B F
  refine isTrue_plain (wpAny_mono (h A env H ρ s E hA O B F) ?_ fun _ _ x => x) (he env _)
  rintro va s₁ ⟨a, μ₁, ρ₁, h₁, B₁, x₁, r₁⟩
  exact wpAny_mono (h₁ A H ρ₁ s₁ va E hA B₁ r₁) (fun _ _ ⟨μ', ρ', p, b, x⟩ => ⟨μ', ρ', p, b, x₁.trans x⟩) fun _ _ x => x
theorem Tst.cmp {op : CmpOp} {l r : Expr} {pos : Pos} {P : Bool → List Cell → Prop} (h : Ev g n sc l lm μ fun a μ₁ => Ev g n sc r lm μ₁ fun b μ₂ => CmpV g n op a b μ₂ fun c μ₃ => TruV g n c μ₃ P) (hm : behindInMarks op r = false := by with_unfolding_all rfl) : Tst g n sc (.Compare l [op] [r] pos) lm μ P := by
  intro A env H ρ s E hA O B F
  refine wpAny_isTrue_Compare1 (wpAny_mono (h A env H ρ s E hA O B F) ?_ fun _ _ x => x) hm
  rintro va s₁ ⟨a, μ₁, ρ₁, h₁, B₁, x₁, r₁⟩
  refine wpAny_mono (h₁ A env H ρ₁ s₁ E hA O B₁ (F.ext0 B O x₁)) ?_ fun _ _ x => x
  rintro vb s₂ ⟨b, μ₂, ρ₂, h₂, B₂, x₂, r₂⟩
  refine wpAny_mono (h₂ A H ρ₂ s₂ va vb E hA B₂ (x₂.rv0 r₁) r₂) ?_ fun _ _ x => x
  rintro vc s₃ ⟨c, μ₃, ρ₃, h₃, B₃, x₃, r₃⟩
  exact wpAny_mono (h₃ A H ρ₃ s₃ vc E hA B₃ r₃) (fun _ _ ⟨μ', ρ', p, b, x⟩ => ⟨μ', ρ', p, b, x₁.trans (x₂.trans (x₃.trans x))⟩) fun _ _ x => x
theorem Tst.not {e : Expr} {pos : Pos} {P : Bool → List Cell → Prop} (h : Tst g n sc e lm μ fun b μ₁ => P (!b) μ₁) : Tst g n sc (.UnaryOp .Not e pos) lm μ P := by
  intro A env H ρ s E hA O B F
  exact isTrue_not (h A env H ρ s E hA O B F)
theorem Tst.and_nil {pos : Pos} {P : Bool → List Cell → Prop} (p : P true μ) : Tst g n sc (.BoolOp .And [] pos) lm μ P := by
  intro A env H ρ s E hA O B F
  exact isTrue_and_nil ⟨μ, ρ, p, B, Ext.refl _ _ _⟩
theorem Tst.or_nil {pos : Pos} {P : Bool → List Cell → Prop} (p : P false μ) : Tst g n sc (.BoolOp .Or [] pos) lm μ P := by
  intro A env H ρ s E hA O B F
  exact isTrue_or_nil ⟨μ, ρ, p, B, Ext.refl _ _ _⟩
theorem wpAny_isTrue_whole {A : Around} {env : Env} {op : BoolOp} {es : List Expr} {pos : Pos} {w w' : Sem Value} {M : Model} {Q : Bool → Shared → Prop} {E : Value → Shared → Prop} {s : Shared} (h : wpAny M A (isTrue (.BoolOp op es pos) env w) Q E s) : wpAny M A (isTrue (.BoolOp op es pos) env w') Q E s := h
theorem Tst.and {e : Expr} {rest : List Expr} {pos : Pos} {P : Bool → List Cell → Prop} (h : Tst g n sc e lm μ fun b μ₁ => (b = true → Tst g n sc (.BoolOp .And rest pos) lm μ₁ P) ∧ (b = false → P false μ₁)) : Tst g n sc (.BoolOp .And (e :: rest) pos) lm μ P := by
  intro A env H ρ s E hA O B F
  refine isTrue_and (wpAny_mono (h A env H ρ s E hA O B F) ?_ fun _ _ x => x)
  rintro b s₁ ⟨μ₁, ρ₁, ⟨ht, hf⟩, B₁, x₁⟩
  cases b with
  | true => exact wpAny_isTrue_whole (wpAny_mono (ht rfl A env H ρ₁ s₁ E hA O B₁ (F.ext0 B O x₁)) (fun _ _ ⟨μ', ρ', p, b, x⟩ => ⟨μ', ρ', p, b, x₁.trans x⟩) fun _ _ x => x)
  | false => exact ⟨μ₁, ρ₁, hf rfl, B₁, x₁⟩
theorem Tst.or {e : Expr} {rest : List Expr} {pos : Pos} {P : Bool → List Cell → Prop} (h : Tst g n sc e lm μ fun b μ₁ => (b = false → Tst g n sc (.BoolOp .Or rest pos) lm μ₁ P) ∧ (b = true → P true μ₁)) : Tst g n sc (.BoolOp .Or (e :: rest) pos) lm μ P := by
  intro A env H ρ s E hA O B F
  refine isTrue_or (wpAny_mono (h A env H ρ s E hA O B F) ?_ fun _ _ x => x)
  rintro b s₁ ⟨μ₁, ρ₁, ⟨hf, ht⟩, B₁, x₁⟩
  cases b with
  | false => exact wpAny_isTrue_whole (wpAny_mono (hf rfl A env H ρ₁ s₁ E hA O B₁ (F.ext0 B O x₁)) (fun _ _ ⟨μ', ρ', p, b, x⟩ => ⟨μ', ρ', p, b, x₁.trans x⟩) fun _ _ x => x)
  | true => exact ⟨μ₁, ρ₁, ht rfl, B₁, x₁⟩

theorem Evs.nil {P : List AV → List Cell → Prop} (p : P [] μ) : Evs g n sc [] lm μ P := by
  intro A env H ρ s pos E hA O B F
  exact spliced_none ⟨[], μ, ρ, p, B, Ext.refl _ _ _, .nil⟩
theorem Evs.cons {e : Expr} {rest : List Expr} {P : List AV → List Cell → Prop} (h : Ev g n sc e lm μ fun a μ₁ => Evs g n sc rest lm μ₁ fun l μ₂ => P (a :: l) μ₂) (he : ∀ env, starEach (e :: rest) env = (false, eval e env) :: starEach rest env := by intro _; rfl) : Evs g n sc (e :: rest) lm μ P := by
  intro A env H ρ s pos E hA O B F
  refine spliced_more (wpAny_mono (h A env H ρ s E hA O B F) ?_ fun _ _ x => x) (he env)
  rintro va s₁ ⟨a, μ₁, ρ₁, h₁, B₁, x₁, r₁⟩
  refine wpAny_mono (h₁ A env H ρ₁ s₁ pos E hA O B₁ (F.ext0 B O x₁)) ?_ fun _ _ x => x
  rintro vs s₂ ⟨l, μ₂, ρ₂, h₂, B₂, x₂, r₂⟩
  exact ⟨a :: l, μ₂, ρ₂, h₂, B₂, x₁.trans x₂, .cons (x₂.rv0 r₁) r₂⟩

theorem Ev.tuple {es : List Expr} {k : Nat} {pos : Pos} (h : Evs g n sc es lm μ fun l μ₁ => l.length ≤ sizeLine ∧ P (.tup l) μ₁) : Ev g n sc (.Tuple es k pos) lm μ P := by
  intro A env H ρ s E hA O B F
  refine Tuple_ (wpAny_mono (h A env H ρ s pos E hA O B F) ?_ fun _ _ x => x)
  rintro vs s₁ ⟨l, μ₁, ρ₁, ⟨hz, p⟩, B₁, x₁, r₁⟩
  refine wpAny_newObj_type ?_ (by show vs.toArray.size ≤ sizeLine; rw [List.size_toArray, r₁.length]; exact hz)
  have hk : ∀ b o, s₁.heap.get? b = some o → (s₁.heap.push { cls := .type "tuple", data := .seq vs.toArray }).get? b = some o := fun b o e => Heap.get?_push_of_some _ e
  have y : Ext [] ρ₁ ρ₁ s₁ { s₁ with heap := s₁.heap.push { cls := .type "tuple", data := .seq vs.toArray } } := Ext.keeps hk rfl rfl
  refine ⟨.tup l, μ₁, ρ₁, p, B₁.keeps hk, x₁.trans y, ?_⟩
  exact .tup ⟨Heap.get?_push_size _ rfl, B₁.freshH, B₁.freshρ⟩ (y.rvs0 r₁)
/-- a list display, frozen -/
theorem Ev.list {es : List Expr} {pos : Pos} (h : Evs g n sc es lm μ fun l μ₁ => l.length ≤ sizeLine ∧ P (.lst l) μ₁) : Ev g n sc (.List es pos) lm μ P := by
  intro A env H ρ s E hA O B F
  refine List_ (wpAny_mono (h A env H ρ s pos E hA O B F) ?_ fun _ _ x => x)
  rintro vs s₁ ⟨l, μ₁, ρ₁, ⟨hz, p⟩, B₁, x₁, r₁⟩
  refine wpAny_newObj_type ?_ (by show vs.toArray.size ≤ sizeLine; rw [List.size_toArray, r₁.length]; exact hz)
  have hk : ∀ b o, s₁.heap.get? b = some o → (s₁.heap.push { cls := .type "list", data := .seq vs.toArray }).get? b = some o := fun b o e => Heap.get?_push_of_some _ e
  have y : Ext [] ρ₁ ρ₁ s₁ { s₁ with heap := s₁.heap.push { cls := .type "list", data := .seq vs.toArray } } := Ext.keeps hk rfl rfl
  refine ⟨.lst l, μ₁, ρ₁, p, B₁.keeps hk, x₁.trans y, ?_⟩
  exact .lst ⟨Heap.get?_push_size _ rfl, B₁.freshH, B₁.freshρ⟩ (y.rvs0 r₁)
/-- a list display that will change -/
theorem Ev.listM {es : List Expr} {pos : Pos} (h : Evs g n sc es lm μ fun l μ₁ => l.length ≤ sizeLine ∧ P (.loc μ₁.length) (μ₁ ++ [.lst l])) : Ev g n sc (.List es pos) lm μ P := by
  intro A env H ρ s E hA O B F
  refine List_ (wpAny_mono (h A env H ρ s pos E hA O B F) ?_ fun _ _ x => x)
  rintro vs s₁ ⟨l, μ₁, ρ₁, ⟨hz, p⟩, B₁, x₁, r₁⟩
  refine wpAny_newObj_type ?_ (by show vs.toArray.size ≤ sizeLine; rw [List.size_toArray, r₁.length]; exact hz)
  have hk : ∀ b o, s₁.heap.get? b = some o → (s₁.heap.push { cls := .type "list", data := .seq vs.toArray }).get? b = some o := fun b o e => Heap.get?_push_of_some _ e
  have hf : s₁.heap.get? s₁.heap.objs.size = none := by
    cases e : s₁.heap.get? s₁.heap.objs.size with
    | none => rfl
    | some o => exact absurd (Heap.lt_size e) (Nat.lt_irrefl _)
  have y : Ext [] ρ₁ (ρ₁ ++ [s₁.heap.objs.size]) s₁ { s₁ with heap := s₁.heap.push { cls := .type "list", data := .seq vs.toArray } } := Ext.new hk hf rfl rfl
  refine ⟨_, _, ρ₁ ++ [s₁.heap.objs.size], p, B₁.new hk (Nat.le_refl _) ⟨vs.toArray, _, Heap.get?_push_size _ rfl, ?_⟩, x₁.trans y, ?_⟩
  · exact y.rvs0 r₁
  · refine .loc ?_
    rw [← B₁.len]
    simp
theorem Ev.dictM {pos : Pos} (p : ∀ ep, P (.loc μ.length) (μ ++ [.dI [] ep])) : Ev g n sc (.Dict [] [] pos) lm μ P := by
  intro A env H ρ s E hA O B F
  refine wpAny_Dict_empty ?_
  have hk : ∀ b o, s.heap.get? b = some o → (s.heap.push { cls := .type "dict", data := .dict #[] }).get? b = some o := fun b o e => Heap.get?_push_of_some _ e
  have hf : s.heap.get? s.heap.objs.size = none := by
    cases e : s.heap.get? s.heap.objs.size with
    | none => rfl
    | some o => exact absurd (Heap.lt_size e) (Nat.lt_irrefl _)
  obtain ⟨o, es, ep, hd⟩ := Heap.DictOf.new (knd := intKind g.prog g.w) s.heap
  refine ⟨_, _, ρ ++ [s.heap.objs.size], p ep, B.new hk (Nat.le_refl _) ⟨[], ⟨o, es, hd⟩, trivial⟩, Ext.new hk hf rfl rfl, .loc (by rw [← B.len]; simp)⟩

/- the values' own -/
theorem BinV.add {i j : Int} (p : P (.int (i + j)) μ) : BinV g n .Add (.int i) (.int j) μ P := by
  intro A H ρ s va vb E hA B ra rb
  cases ra; cases rb
  exact PyProof.Rows.add_int (.here p B (fun _ _ e => e) rfl rfl (.int _ _))
theorem BinV.sub {i j : Int} (p : P (.int (i - j)) μ) : BinV g n .Sub (.int i) (.int j) μ P := by
  intro A H ρ s va vb E hA B ra rb
  cases ra; cases rb
  exact PyProof.Rows.sub_int (.here p B (fun _ _ e => e) rfl rfl (.int _ _))
theorem BinV.mul {i j : Int} (hm : IntMulOk i j) (p : P (.int (i * j)) μ) : BinV g n .Mult (.int i) (.int j) μ P := by
  intro A H ρ s va vb E hA B ra rb
  cases ra; cases rb
  exact PyProof.Rows.mul_int (.here p B (fun _ _ e => e) rfl rfl (.int _ _)) hm
theorem BinV.mod {i j : Int} (hj : j ≠ 0) (p : P (.int (i.fmod j)) μ) : BinV g n .Mod (.int i) (.int j) μ P := by
  intro A H ρ s va vb E hA B ra rb
  cases ra; cases rb
  exact PyProof.Rows.mod_int' hj (.here p B (fun _ _ e => e) rfl rfl (.int _ _))
theorem BinV.div {i j : Int} (hj : j ≠ 0) (hp : Builtin.divisionGoesByPylong i j = false) (p : P (.int (i.fdiv j)) μ) : BinV g n .FloorDiv (.int i) (.int j) μ P := by
  intro A H ρ s va vb E hA B ra rb
  cases ra; cases rb
  exact PyProof.Rows.floordiv_int hj (.here p B (fun _ _ e => e) rfl rfl (.int _ _)) (.inl hp)
theorem UnV.neg {i : Int} (p : P (.int (-i)) μ) : UnV g n .USub (.int i) μ P := by
  intro A H ρ s va E hA B ra
  cases ra
  exact PyProof.Rows.neg_int (.here p B (fun _ _ e => e) rfl rfl (.int _ _))
theorem UnV.not {a : AV} (h : TruV g n a μ fun b μ₁ => P (.bool (!b)) μ₁) : UnV g n .Not a μ P := by
  intro A H ρ s va E hA B ra
  refine not_of (wpAny_mono (h A H ρ s va E hA B ra) ?_ fun _ _ x => x)
  rintro b s₁ ⟨μ₁, ρ₁, p, B₁, x₁⟩
  exact ⟨_, μ₁, ρ₁, p, B₁, x₁, .bool _⟩
theorem TruV.bool {b : Bool} {P : Bool → List Cell → Prop} (p : P b μ) : TruV g n (.bool b) μ P := by
  intro A H ρ s va E hA B ra
  cases ra
  exact wpAny_truthy_bool ⟨μ, ρ, p, B, Ext.refl _ _ _⟩
theorem CmpV.lt {i j : Int} (p : P (.bool (decide (i < j))) μ) : CmpV g n .Lt (.int i) (.int j) μ P := by
  intro A H ρ s va vb E hA B ra rb
  cases ra; cases rb
  exact PyProof.Rows.lt_int (.here p B (fun _ _ e => e) rfl rfl (.bool _))
theorem CmpV.le {i j : Int} (p : P (.bool (decide (i ≤ j))) μ) : CmpV g n .LtE (.int i) (.int j) μ P := by
  intro A H ρ s va vb E hA B ra rb
  cases ra; cases rb
  exact PyProof.Rows.le_int (.here p B (fun _ _ e => e) rfl rfl (.bool _))
theorem CmpV.gt {i j : Int} (p : P (.bool (decide (j < i))) μ) : CmpV g n .Gt (.int i) (.int j) μ P := by
  intro A H ρ s va vb E hA B ra rb
  cases ra; cases rb
  exact PyProof.Rows.gt_int (.here p B (fun _ _ e => e) rfl rfl (.bool _))
theorem CmpV.ge {i j : Int} (p : P (.bool (decide (j ≤ i))) μ) : CmpV g n .GtE (.int i) (.int j) μ P := by
  intro A H ρ s va vb E hA B ra rb
  cases ra; cases rb
  exact PyProof.Rows.ge_int (.here p B (fun _ _ e => e) rfl rfl (.bool _))
theorem CmpV.eq {i j : Int} (p : P (.bool (decide (i = j))) μ) : CmpV g n .Eq (.int i) (.int j) μ P := by
  intro A H ρ s va vb E hA B ra rb
  cases ra; cases rb
  exact PyProof.Rows.eq_int (.here p B (fun _ _ e => e) rfl rfl (.bool _))
theorem CmpV.ne {i j : Int} (p : P (.bool (!decide (i = j))) μ) : CmpV g n .NotEq (.int i) (.int j) μ P := by
  intro A H ρ s va vb E hA B ra rb
  cases ra; cases rb
  exact PyProof.Rows.ne_int (.here p B (fun _ _ e => e) rfl rfl (.bool _))
theorem CmpV.eqS {i j : String} (p : P (.bool (Str.ofString i == Str.ofString j)) μ) : CmpV g n .Eq (.str i) (.str j) μ P := by
  intro A H ρ s va vb E hA B ra rb
  cases ra; cases rb
  exact PyProof.Rows.eq_str (.here p B (fun _ _ e => e) rfl rfl (.bool _))
theorem CmpV.isNotB {i j : Bool} (p : P (.bool (i != j)) μ) : CmpV g n .IsNot (.bool i) (.bool j) μ P := by
  intro A H ρ s va vb E hA B ra rb
  cases ra; cases rb
  exact isnot_bool (.here p B (fun _ _ e => e) rfl rfl (.bool _))
theorem CmpV.isB {i j : Bool} (p : P (.bool (i == j)) μ) : CmpV g n .Is (.bool i) (.bool j) μ P := by
  intro A H ρ s va vb E hA B ra rb
  cases ra; cases rb
  exact is_bool (.here p B (fun _ _ e => e) rfl rfl (.bool _))
noncomputable def AV.isNone : AV → Bool
  | .none => true
  | _ => false
theorem CmpV.isNone {a : AV} (p : P (.bool a.isNone) μ) (hr : ∀ v, a ≠ .raw v) : CmpV g n .Is a .none μ P := by
  intro A H ρ s va vb E hA B ra rb
  cases rb
  cases ra <;> first
    | exact is_none_none (.here p B (fun _ _ e => e) rfl rfl (.bool _))
    | exact absurd rfl (hr _)
    | exact is_none_ne (by intro x; cases x) (.here p B (fun _ _ e => e) rfl rfl (.bool _))
end
end
section
open PySem PySem.Spec PySem.Calls PyProof.Rows PySem.W

theorem ofS_inj {a b : String} (h : Str.ofString a = Str.ofString b) : a = b := by
  rw [Str.ofString_eq_toList, Str.ofString_eq_toList] at h
  have h1 : a.toList.map Char.toNat = b.toList.map Char.toNat := by simpa using congrArg (fun x => x.cps.toList) h
  have h2 : a.toList = b.toList := by
    generalize a.toList = l at h1
    generalize b.toList = l' at h1
    induction l generalizing l' with
    | nil => cases l' with
      | nil => rfl
      | cons y r => simp at h1
    | cons x l ih => cases l' with
      | nil => simp at h1
      | cons y r =>
        simp only [List.map_cons, List.cons.injEq] at h1
        have : x = y := Char.ext (UInt32.toNat_inj.mp h1.1)
        rw [this, ih r h1.2]
  exact String.toList_injective h2
theorem ofS_iff {a b : String} : (Str.ofString a = Str.ofString b) = (a = b) := propext ⟨ofS_inj, congrArg _⟩

section
variable {g : Gd} {n : Nat} {H ρ ρ' : List Addr} {μ : List Cell} {s s' : Shared}

theorem Base.enter (B : Base g H μ ρ s) {O : List Addr} (hk : ∀ b o, s.heap.get? b = some o → s'.heap.get? b = some o) (hn : ∀ a ∈ O, s.heap.get? a = none) (ht : ∀ a ∈ O, ∃ o, s'.heap.get? a = some o) :
    Base g (O ++ H) μ ρ s' ∧ ∀ a o, Vis H ρ s.heap a o → Vis (O ++ H) ρ s'.heap a o := by
  have hne : ∀ b o, s.heap.get? b = some o → b ∉ O := fun b o e q => by rw [hn b q] at e; cases e
  have hv : ∀ a o, Vis H ρ s.heap a o → Vis (O ++ H) ρ s'.heap a o := fun a o z => ⟨hk a o z.1, fun q => (List.mem_append.mp q).elim (hne a o z.1) z.2.1, z.2.2⟩
  refine ⟨⟨B.ok, fun b o e => hv b o (B.old b o e), B.len, B.nd, fun a ha q => ?_, B.sys, fun a ha => ?_, fun i c a hc ha => ?_⟩, hv⟩
  · obtain ⟨o, e⟩ := B.thereρ ha
    exact (List.mem_append.mp q).elim (hne a o e) (B.dis a ha)
  · exact (List.mem_append.mp ha).elim (ht a) fun q => let ⟨o, e⟩ := B.lt a q; ⟨o, hk a o e⟩
  · exact (B.cell i c a hc ha).keeps hv (Sub.refl _) fun o e => hk a o e
theorem Vis.less {O : List Addr} {h : Heap} {a : Addr} {o : Obj} (z : Vis (O ++ H) ρ h a o) : Vis H ρ h a o := ⟨z.1, fun q => z.2.1 (List.mem_append_right _ q), z.2.2⟩
theorem Base.leave {O : List Addr} (B : Base g (O ++ H) μ ρ s) : Base g H μ ρ s :=
  ⟨B.ok, fun b o e => (B.old b o e).less, B.len, B.nd, fun a ha q => B.dis a ha (List.mem_append_right _ q), B.sys, fun a ha => B.lt a (List.mem_append_right _ ha),
    fun i c a hc ha => (B.cell i c a hc ha).keeps (fun _ _ z => z.less) (Sub.refl _) fun _ e => e⟩
theorem RV.less {O : List Addr} {h : Heap} {a : AV} {v : Value} (r : RV (Vis (O ++ H) ρ h) ρ a v) : RV (Vis H ρ h) ρ a v := r.mono (fun _ _ z => z.less) (Sub.refl _)

theorem bindL_lookup {V : Vw} {kindOf : Str → Option NameKind} : ∀ (names : List String) (args : List AV) (vs : List Value) (m₀ : Str → Option Value), names.Nodup → RVs V ρ args vs → (∀ y, kindOf (Str.ofString y) = some .local → y ∈ names.take args.length → True) →
    ∀ x, kindOf (Str.ofString x) = some .local → ROpt V ρ ((names.zip args).lookup x) (bindL kindOf ((names.map Str.ofString).zip vs) m₀ (Str.ofString x))
  | [], _, _, _, _, _, _, _, _ => by simp [ROpt]
  | _ :: _, _, _, _, _, .nil, _, _, _ => by simp [ROpt]
  | y :: names, a :: args, v :: vs, m₀, hn, .cons h r, _, x, hx => by
    have hn' := List.nodup_cons.mp hn
    simp only [List.zip_cons_cons, List.map_cons, bindL]
    by_cases hxy : x = y
    · subst hxy
      simp only [List.lookup_cons, beq_self_eq_true]
      have key : ∀ (l : List (Str × Value)) (m : Str → Option Value), (∀ p ∈ l, p.1 ≠ Str.ofString x) → bindL kindOf l m (Str.ofString x) = m (Str.ofString x) := by
        intro l
        induction l with
        | nil => intro m _; rfl
        | cons p l ih =>
          intro m hp
          obtain ⟨k, w⟩ := p
          rw [bindL, ih _ fun q hq => hp q (List.mem_cons_of_mem _ hq)]
          have : Str.ofString x ≠ k := fun e => hp (k, w) (List.mem_cons_self) e.symm
          split
          · simp [this]
          · rfl
      rw [key _ _ fun p hp => ?_]
      · simp only [hx, if_true]
        exact h
      · obtain ⟨z, hz, e⟩ := List.mem_map.mp (List.of_mem_zip (a := p.1) (b := p.2) hp).1
        intro q
        rw [← e] at q
        exact hn'.1 (ofS_inj q ▸ hz)
    · have : (x == y) = false := by simpa using hxy
      simp only [List.lookup_cons, this]
      exact bindL_lookup names args vs _ hn'.2 r (fun _ _ _ => trivial) x hx
theorem bindC_lookup {V : Vw} {kindOf : Str → Option NameKind} : ∀ (names : List String) (args : List AV) (vs : List Value) (m₀ : Str → Option Value), names.Nodup → RVs V ρ args vs →
    ∀ x a, kindOf (Str.ofString x) = some .cell → (names.zip args).lookup x = some a → ∃ v, bindC kindOf ((names.map Str.ofString).zip vs) m₀ (Str.ofString x) = some v ∧ RV V ρ a v
  | [], _, _, _, _, _, _, _, _, h => by simp at h
  | _ :: _, _, _, _, _, .nil, _, _, _, h => by simp at h
  | y :: names, b :: args, v :: vs, m₀, hn, .cons h r, x, a, hx, hl => by
    have hn' := List.nodup_cons.mp hn
    simp only [List.zip_cons_cons, List.map_cons, bindC]
    by_cases hxy : x = y
    · subst hxy
      simp only [List.zip_cons_cons, List.lookup_cons, beq_self_eq_true, Option.some.injEq] at hl
      subst hl
      have key : ∀ (l : List (Str × Value)) (m : Str → Option Value), (∀ p ∈ l, p.1 ≠ Str.ofString x) → bindC kindOf l m (Str.ofString x) = m (Str.ofString x) := by
        intro l
        induction l with
        | nil => intro m _; rfl
        | cons p l ih =>
          intro m hp
          obtain ⟨k, w⟩ := p
          rw [bindC, ih _ fun q hq => hp q (List.mem_cons_of_mem _ hq)]
          have : Str.ofString x ≠ k := fun e => hp (k, w) (List.mem_cons_self) e.symm
          split
          · rfl
          · simp [this]
      refine ⟨v, ?_, h⟩
      rw [key _ _ fun p hp => ?_]
      · simp [hx]
      · obtain ⟨z, hz, e⟩ := List.mem_map.mp (List.of_mem_zip (a := p.1) (b := p.2) hp).1
        intro q
        rw [← e] at q
        exact hn'.1 (ofS_inj q ▸ hz)
    · have : (x == y) = false := by simpa using hxy
      simp only [List.zip_cons_cons, List.lookup_cons, this] at hl
      exact bindC_lookup names args vs _ hn'.2 r x a hx hl

noncomputable def RetP (P : AV → List Cell → Prop) : Fl → Lm → List Cell → Prop
  | .ret a, _, μ => P a μ
  | .next, _, μ => P .none μ
  | _, _, _ => False

theorem CallC.fn {f : Addr} {name qual : Str} {params : Arguments} {body : List Stmt} {scope : Scope} {dV kV doc pm cdv ct oc : Value} {an od : Option Addr} {osl : Array (Option Value)} {args : List AV} {P : AV → List Cell → Prop}
    (names : List String)
    (ho : g.K.lookup f = some ⟨oc, od, .func (fnOf name qual params body scope dV kV doc pm an cdv ct), osl⟩) (hcd : codeIn g.K cdv qual = true)
    (hbind : ∀ vs : List Value, vs.length = names.length → bindArgs (fnOf name qual params body scope dV kV doc pm an cdv ct) ⟨vs, []⟩ = pure ((names.map Str.ofString).zip vs))
    (hlen : args.length = names.length) (hnn : names.Nodup)
    (hkind : (names.all fun y => scope.names.lookup (Str.ofString y) == some .local || scope.names.lookup (Str.ofString y) == some .cell) = true)
    (hnd : ((cellsFrom 0 scope.names []).map (·.1)).Nodup)
    (hbody : Exs g n scope body (names.zip args) μ (RetP P))
    (hco : scope.isCoroutine = false := by rfl) (hgen : scope.isGenerator = false := by rfl) (hk : scope.kind = .function := by rfl) : CallC g (n + 1) (.ref f) args μ P := by
  intro A H ρ s vs RR hA B R hRR
  have hvl : vs.length = names.length := R.length.trans hlen
  refine codeAny_call_function hA.room (B.K _ _ ho) rfl hco hgen rfl (codeRec_of B.K hcd) ?_
  rw [hbind vs hvl]
  refine wpAny_pure (wpAny_newFunctionEnv_cells hk (fun x hx => ?_) fun env he s₁ x => ?_)
  · have hx1 : x.1 ∈ names.map Str.ofString := (List.of_mem_zip (a := x.1) (b := x.2) hx).1
    obtain ⟨y, hy, e⟩ := List.mem_map.mp hx1
    have := List.all_eq_true.mp hkind y hy
    rcases Bool.or_eq_true_iff.mp this with q | q
    · exact .inl (by rw [← e]; simpa using q)
    · have q' : scope.names.lookup x.1 = some .cell := by rw [← e]; simpa using q
      exact .inr ⟨q', cellsFrom_some _ _ _ (.inl q')⟩
  subst he
  refine ⟨B.nolimit.keeps x.toInCall.keep, codeAny_func ?_⟩
  have hkeep := x.toInCall.keep
  have hnd' : ((cellsFrom (s.heap.objs.size + 1) scope.names []).map (·.1)).Nodup := cellsFrom_names scope.names 0 (s.heap.objs.size + 1) [] [] rfl ▸ hnd
  let env := newEnv scope s.heap.objs.size mainGlobals (cellsFrom (s.heap.objs.size + 1) scope.names []) (qual ++ ".<locals>.") (some f) cdv none builtinsNs
  have hfresh : ∀ a ∈ own env, s.heap.get? a = none := by
    intro a ha
    have hle : s.heap.objs.size ≤ a := by
      rcases List.mem_cons.mp ha with rfl | ha
      · exact Nat.le_refl _
      · obtain ⟨y, hp, _⟩ := ocells_of ha
        exact Nat.le_of_lt (x.above y a hp)
    cases e : s.heap.get? a with
    | none => rfl
    | some o => exact absurd (Heap.lt_size e) (Nat.not_lt.mpr hle)
  have hcellAt : ∀ p ∈ cellsFrom (s.heap.objs.size + 1) scope.names [], (s₁.heap.IsCell p.2 (bindC env.kindOf ((names.map Str.ofString).zip vs) (fun _ => none) p.1)) := fun p hp => x.cell p.1 p.2 (lookup_of_mem_nodup hnd' hp)
  have hthere : ∀ a ∈ own env, ∃ o, s₁.heap.get? a = some o := by
    intro a ha
    rcases List.mem_cons.mp ha with rfl | ha
    · obtain ⟨o, _, _, ho, _⟩ := x.toInCall.ns
      exact ⟨o, ho⟩
    · obtain ⟨y, hp, _⟩ := ocells_of ha
      obtain ⟨o, ho, _⟩ := hcellAt (y, a) hp
      exact ⟨o, ho⟩
  obtain ⟨B₁, hv⟩ := B.enter hkeep hfresh hthere
  have R₁ := R.mono hv (Sub.refl _)
  obtain ⟨h₁, tk₁, hs₁⟩ := x.toInCall.same
  have F₁ : FrameAt env (names.zip args) (own env ++ H) ρ s₁.heap := by
    refine ⟨⟨_, x.toInCall.ns, fun y hy => ?_⟩, fun y hy => ?_⟩
    · exact bindL_lookup names args vs _ hnn R₁ (fun _ _ _ => trivial) y hy
    · have hlk : ∃ c, (cellsFrom (s.heap.objs.size + 1) scope.names []).lookup (Str.ofString y) = some c := by
        have := cellsFrom_some scope.names (s.heap.objs.size + 1) [] (x := Str.ofString y) (.inl hy)
        exact Option.isSome_iff_exists.mp this
      obtain ⟨c, hc⟩ := hlk
      have hcc := x.cell _ c hc
      refine ⟨c, _, hc, hcc, ?_⟩
      cases e : (names.zip args).lookup y with
      | none => trivial
      | some a =>
        obtain ⟨v, hv', hr⟩ := bindC_lookup (kindOf := env.kindOf) names args vs (fun _ => none) hnn R₁ y a hy e
        show ROpt _ _ _ (bindC env.kindOf _ _ _)
        rw [hv']; exact hr
  have hndd : OwnOk env := OwnOk.of (fun q => by
    obtain ⟨y, hp, _⟩ := ocells_of q
    exact Nat.lt_irrefl _ (x.above y _ hp)) (List.pairwise_map.mpr x.apart)
  have O₁ : EnvOk scope env (own env ++ H) := ⟨rfl, hk, rfl, rfl, List.mem_append_left _ (List.mem_cons_self), fun a ha => List.mem_append_left _ (List.mem_cons_of_mem _ ha), hndd⟩
  have Fn : FnEnv (A.deeper env) env := by
    refine ⟨hndd, ?_⟩
    · obtain ⟨l, hl⟩ := hA.frames
      exact ⟨l, by simp [Around.deeper, hl]⟩
  refine wpAny_mono (hbody (A.deeper env) env (own env ++ H) ρ s₁ (fun _ _ => False) hA.deeper O₁ Fn B₁ F₁) ?_ fun _ _ z => z.elim
  rintro fl s₂ ⟨fl', lm', μ', ρ', hq, B₂, _, y, hr⟩
  have hx : Ext [] ρ ρ' s s₂ := by
    refine ⟨y.pre, fun b o _ hb e => ?_, (fun _ q => nomatch q), y.gens.trans (by rw [hs₁]), y.os.trans (by rw [hs₁])⟩
    exact y.keep b o (fun q => by rw [hfresh b q] at e; cases e) hb (hkeep b o e)
  have hlast : ∀ (a : AV) (v : Value), P a μ' → RV (Vis (own env ++ H) ρ' s₂.heap) ρ' a v → Post g H [] ρ s P v s₂ := fun a v p r => ⟨a, μ', ρ', p, B₂.leave, hx, r.less⟩
  cases fl' with
  | next => cases fl with
    | next => exact hRR _ _ (hlast .none .none hq .none)
    | _ => exact hr.elim
  | ret a => cases fl with
    | ret v => exact hRR _ _ (hlast a v hq hr)
    | _ => exact hr.elim
  | brk => exact hq.elim
  | cont => exact hq.elim
theorem Call.fn {f : Addr} {name qual : Str} {params : Arguments} {body : List Stmt} {scope : Scope} {dV kV doc pm cdv ct oc : Value} {an od : Option Addr} {osl : Array (Option Value)} {args : List AV} {P : AV → List Cell → Prop}
    (names : List String)
    (ho : g.K.lookup f = some ⟨oc, od, .func (fnOf name qual params body scope dV kV doc pm an cdv ct), osl⟩) (hcd : codeIn g.K cdv qual = true)
    (hbind : ∀ vs : List Value, vs.length = names.length → bindArgs (fnOf name qual params body scope dV kV doc pm an cdv ct) ⟨vs, []⟩ = pure ((names.map Str.ofString).zip vs))
    (hlen : args.length = names.length) (hnn : names.Nodup)
    (hkind : (names.all fun y => scope.names.lookup (Str.ofString y) == some .local || scope.names.lookup (Str.ofString y) == some .cell) = true)
    (hnd : ((cellsFrom 0 scope.names []).map (·.1)).Nodup)
    (hbody : Exs g n scope body (names.zip args) μ (RetP P))
    (hco : scope.isCoroutine = false := by rfl) (hgen : scope.isGenerator = false := by rfl) (hk : scope.kind = .function := by rfl) : Call g (n + 1) (.ref f) args μ P :=
  (CallC.fn names ho hcd hbind hlen hnn hkind hnd hbody hco hgen hk).toCall
end
end
section
open PySem PySem.Spec PySem.Calls PyProof.Rows PySem.W

theorem sameBut_there {a b : Addr} {h h' : Heap} (x : Heap.SameBut a h h') (ha : ∃ o, h'.get? a = some o) (hb : ∃ o, h.get? b = some o) : ∃ o, h'.get? b = some o := by
  by_cases q : b = a
  · rw [q]; exact ha
  · obtain ⟨o, e⟩ := hb
    exact ⟨o, (x.2 b q).trans e⟩
theorem ns_there {h : Heap} {a : Addr} {m : Str → Option Value} (x : h.Ns a m) : ∃ o, h.get? a = some o := by obtain ⟨o, _, _, ho, _⟩ := x; exact ⟨o, ho⟩
theorem cell_there {h : Heap} {a : Addr} {m : Option Value} (x : h.IsCell a m) : ∃ o, h.get? a = some o := by obtain ⟨o, ho, _⟩ := x; exact ⟨o, ho⟩

noncomputable def Wof (fn : Bool) (env : Env) : List Addr := if fn then own env else [env.locals]
theorem loc_Wof (fn : Bool) (env : Env) : env.locals ∈ Wof fn env := by cases fn <;> simp [Wof, own]
theorem EnvOk.own {sc : Scope} {env : Env} {H : List Addr} (O : EnvOk sc env H) : ∀ a ∈ own env, a ∈ H := fun a ha => by
  rcases List.mem_cons.mp ha with rfl | ha
  · exact O.loc
  · exact O.cells a ha
theorem EnvOk.wof {sc : Scope} {env : Env} {H : List Addr} (O : EnvOk sc env H) {fn : Bool} : ∀ a ∈ Wof fn env, a ∈ H := by
  cases fn with
  | true => exact O.own
  | false => intro a ha; rw [List.mem_singleton.mp ha]; exact O.loc

section
variable {g : Gd} {n : Nat} {sc : Scope} {lm : Lm} {μ : List Cell} {H ρ : List Addr} {s : Shared} {env : Env}

theorem Ext.sub1 {a : Addr} {W : List Addr} {h' : Heap} {tk : Tok} (ha : a ∈ W) (hs : Heap.SameBut a s.heap h') (ht : ∃ o, h'.get? a = some o) : Ext W ρ ρ s { s with heap := h', toks := tk } :=
  ⟨Sub.refl _, fun b _ h1 h2 e => ⟨(hs.2 b fun q => h1 (q ▸ ha)).trans e, h2⟩, fun _ _ hb => sameBut_there hs ht hb, rfl, rfl⟩
theorem Base.sub1 {a : Addr} {h' : Heap} {tk : Tok} (B : Base g H μ ρ s) (ha : a ∈ H) (hs : Heap.SameBut a s.heap h') (ht : ∃ o, h'.get? a = some o) : Base g H μ ρ { s with heap := h', toks := tk } :=
  B.kp (W := [a]) (fun b hb => by rw [List.mem_singleton.mp hb]; exact ha) (fun b o hb e => (hs.2 b fun q => hb (List.mem_singleton.mpr q)).trans e) fun b hb => sameBut_there hs ht (B.lt b (by rw [List.mem_singleton.mp hb]; exact ha))

theorem FrameAt.store {fn : Bool} {x : String} {a : AV} {v : Value} {h' : Heap} {tk : Tok} {m : Str → Option Value} (F : FrameAt env lm H ρ s.heap) (O : EnvOk sc env H) (hnd : OwnOk env)
    (hr : ∀ x, env.kindOf (Str.ofString x) = some .local → ROpt (Vis H ρ s.heap) ρ (lm.lookup x) (m (Str.ofString x)))
    (hs : Heap.SameBut env.locals s.heap h') (hn : h'.Ns env.locals (fun y => if y = Str.ofString x then some v else m y)) (hx : env.kindOf (Str.ofString x) = some .local) (r : RV (Vis H ρ s.heap) ρ a v) :
    FrameAt env ((x, a) :: lm) H ρ h' := by
  have X : Ext (Wof fn env) ρ ρ s { s with heap := h', toks := tk } := Ext.sub1 (loc_Wof fn env) hs (ns_there hn)
  refine ⟨⟨_, hn, fun y hy => ?_⟩, fun y hy => ?_⟩
  · by_cases h : y = x
    · subst h
      simp only [List.lookup_cons, beq_self_eq_true, if_true]
      exact X.rv O.wof r
    · have h1 : (y == x) = false := by simpa using h
      have h2 : ¬ Str.ofString y = Str.ofString x := fun q => h (ofS_inj q)
      simp only [List.lookup_cons, h1, if_neg h2]
      exact (hr y hy).mono (X.vis O.wof) X.pre
  · have h : y ≠ x := fun q => by subst q; rw [hx] at hy; cases hy
    have h1 : (y == x) = false := by simpa using h
    obtain ⟨c, v', hc, ⟨o, ho, hd⟩, h3⟩ := F.cells y hy
    have hne : c ≠ env.locals := fun q => hnd.1 (q ▸ ocells_in (PySem.mem_of_lookup hc) hy)
    refine ⟨c, v', hc, ⟨o, (hs.2 c hne).trans ho, hd⟩, ?_⟩
    simp only [List.lookup_cons, h1]
    exact h3.mono (X.vis O.wof) X.pre

theorem FrameAt.storeC {x : String} {a : AV} {v : Value} {h' : Heap} {c : Addr} (F : FrameAt env lm H ρ s.heap) (O : EnvOk sc env H) (hnd : OwnOk env)
    (hc : env.cells.lookup (Str.ofString x) = some c) (hs : Heap.SameBut c s.heap h') (hn : h'.IsCell c (some v)) (hx : env.kindOf (Str.ofString x) = some .cell) (r : RV (Vis H ρ s.heap) ρ a v) :
    FrameAt env ((x, a) :: lm) H ρ h' := by
  have hco : c ∈ own env := List.mem_cons_of_mem _ (ocells_in (PySem.mem_of_lookup hc) hx)
  have X : Ext (own env) ρ ρ s { s with heap := h' } := Ext.sub1 hco hs (cell_there hn)
  obtain ⟨m, ⟨o, es, ep, ho, hh⟩, hr⟩ := F.ns
  have hne : env.locals ≠ c := fun q => hnd.1 (q ▸ ocells_in (PySem.mem_of_lookup hc) hx)
  refine ⟨⟨m, ⟨o, es, ep, (hs.2 _ hne).trans ho, hh⟩, fun y hy => ?_⟩, fun y hy => ?_⟩
  · have h : y ≠ x := fun q => by subst q; rw [hx] at hy; cases hy
    have h1 : (y == x) = false := by simpa using h
    simp only [List.lookup_cons, h1]
    exact (hr y hy).mono (X.vis O.own) X.pre
  · by_cases h : y = x
    · subst h
      refine ⟨c, _, hc, hn, ?_⟩
      simp only [List.lookup_cons, beq_self_eq_true]
      exact X.rv O.own r
    · have h1 : (y == x) = false := by simpa using h
      obtain ⟨c', v', hc', ⟨o, ho, hd⟩, h3⟩ := F.cells y hy
      have hne : c' ≠ c := fun q => h (ofS_inj (hnd.2 _ _ _ hy hx (q ▸ hc') hc))
      refine ⟨c', v', hc', ⟨o, (hs.2 c' hne).trans ho, hd⟩, ?_⟩
      simp only [List.lookup_cons, h1]
      exact h3.mono (X.vis O.own) X.pre

noncomputable def PostA (g : Gd) (fn : Bool) (env : Env) (H ρ : List Addr) (s : Shared) (Q : Lm → List Cell → Prop) (s' : Shared) : Prop :=
  ∃ lm' μ' ρ', Q lm' μ' ∧ Base g H μ' ρ' s' ∧ FrameAt env lm' H ρ' s'.heap ∧ Ext (Wof fn env) ρ ρ' s s'
theorem PostA.after {fn : Bool} {ρ₁ : List Addr} {s₁ s₂ : Shared} {Q : Lm → List Cell → Prop} (x : Ext (Wof fn env) ρ ρ₁ s s₁) (h : PostA g fn env H ρ₁ s₁ Q s₂) : PostA g fn env H ρ s Q s₂ := by
  obtain ⟨lm', μ', ρ', q, B, F, y⟩ := h
  exact ⟨lm', μ', ρ', q, B, F, x.trans y⟩

/-- A value goes into a target. -/
noncomputable def Asg (g : Gd) (n : Nat) (sc : Scope) (fn : Bool) (t : Expr) (a : AV) (lm : Lm) (μ : List Cell) (Q : Lm → List Cell → Prop) : Prop :=
  ∀ (A : Around) (env : Env) (H ρ : List Addr) (s : Shared) (v : Value) (E : Value → Shared → Prop), OkA n A → EnvOk sc env H → OwnOk env → Base g H μ ρ s → FrameAt env lm H ρ s.heap → RV (Vis H ρ s.heap) ρ a v →
    wpAny (model g.prog g.w) A (assign t env v) (fun _ s' => PostA g fn env H ρ s Q s') E s
/-- The bare store of a name. -/
noncomputable def Sto (g : Gd) (n : Nat) (sc : Scope) (fn : Bool) (x : String) (a : AV) (lm : Lm) (μ : List Cell) (Q : Lm → List Cell → Prop) : Prop :=
  ∀ (A : Around) (env : Env) (H ρ : List Addr) (s : Shared) (v : Value) (E : Value → Shared → Prop), OkA n A → EnvOk sc env H → OwnOk env → Base g H μ ρ s → FrameAt env lm H ρ s.heap → RV (Vis H ρ s.heap) ρ a v →
    wpAny (model g.prog g.w) A (storeName env (Str.ofString x) v) (fun _ s' => PostA g fn env H ρ s Q s') E s

theorem Sto.loc {fn : Bool} {x : String} {a : AV} {Q : Lm → List Cell → Prop} (hx : sc.names.lookup (Str.ofString x) = some .local) (q : Q ((x, a) :: lm) μ) : Sto g n sc fn x a lm μ Q := by
  intro A env H ρ s v E hA O hnd B F r
  have hk : env.kindOf (Str.ofString x) = some .local := by show env.scope.names.lookup _ = _; rw [O.scope]; exact hx
  obtain ⟨m, hm, hr⟩ := F.ns
  refine wpAny_storeName_local hk hm (fun h' hn hs => ?_) (by rw [O.scope, O.kind]; rfl)
  exact ⟨_, μ, ρ, q, B.sub1 O.loc hs (ns_there hn), F.store (fn := fn) (tk := s.toks) O hnd hr hs hn hk r, Ext.sub1 (loc_Wof fn env) hs (ns_there hn)⟩
theorem Sto.cell {x : String} {a : AV} {Q : Lm → List Cell → Prop} (hx : sc.names.lookup (Str.ofString x) = some .cell) (q : Q ((x, a) :: lm) μ) : Sto g n sc true x a lm μ Q := by
  intro A env H ρ s v E hA O hnd B F r
  have hk : env.kindOf (Str.ofString x) = some .cell := by show env.scope.names.lookup _ = _; rw [O.scope]; exact hx
  obtain ⟨c, v₀, hc, hic, _⟩ := F.cells x hk
  have hco : c ∈ own env := List.mem_cons_of_mem _ (ocells_in (PySem.mem_of_lookup hc) hk)
  refine wpAny_storeName_cell (by rw [O.scope]; exact O.kind) hk hc hic fun h' hn hs => ?_
  exact ⟨_, μ, ρ, q, B.sub1 (O.own c hco) hs (cell_there hn), F.storeC O hnd hc hs hn hk r, Ext.sub1 hco hs (cell_there hn)⟩

theorem Asg.name {fn : Bool} {x : String} {a : AV} {pos : Pos} {Q : Lm → List Cell → Prop} (h : Sto g n sc fn x a lm μ Q) : Asg g n sc fn (.Name (Str.ofString x) pos) a lm μ Q :=
  fun A env H ρ s v E hA O hnd B F r => PySem.wpAny_assign_Name (h A env H ρ s v E hA O hnd B F r)

/-- Values go into targets, in order. -/
noncomputable def AsgIn (g : Gd) (n : Nat) (sc : Scope) (fn : Bool) (ts : List Expr) (l : List AV) (lm : Lm) (μ : List Cell) (Q : Lm → List Cell → Prop) : Prop :=
  ∀ (A : Around) (env : Env) (H ρ : List Addr) (s : Shared) (vs : List Value) (E : Value → Shared → Prop), OkA n A → EnvOk sc env H → OwnOk env → Base g H μ ρ s → FrameAt env lm H ρ s.heap → RVs (Vis H ρ s.heap) ρ l vs →
    wpAny (model g.prog g.w) A (assignInOrder ((assignEach ts env).map (·.2)) vs) (fun _ s' => PostA g fn env H ρ s Q s') E s
noncomputable def StoIn (g : Gd) (n : Nat) (sc : Scope) (fn : Bool) (ts : List String) (l : List AV) (lm : Lm) (μ : List Cell) (Q : Lm → List Cell → Prop) : Prop :=
  ∀ (A : Around) (env : Env) (H ρ : List Addr) (s : Shared) (vs : List Value) (E : Value → Shared → Prop), OkA n A → EnvOk sc env H → OwnOk env → Base g H μ ρ s → FrameAt env lm H ρ s.heap → RVs (Vis H ρ s.heap) ρ l vs →
    wpAny (model g.prog g.w) A (assignInOrder (ts.map fun x => bindName env (Str.ofString x)) vs) (fun _ s' => PostA g fn env H ρ s Q s') E s

theorem AsgIn.nil {fn : Bool} {Q : Lm → List Cell → Prop} (q : Q lm μ) : AsgIn g n sc fn [] [] lm μ Q := by
  intro A env H ρ s vs E hA O hnd B F r
  exact PyProof.Rows.assignInOrder_nil ⟨lm, μ, ρ, q, B, F, Ext.refl _ _ _⟩
theorem AsgIn.cons {fn : Bool} {t : Expr} {ts : List Expr} {a : AV} {l : List AV} {Q : Lm → List Cell → Prop} (h : Asg g n sc fn t a lm μ fun lm₁ μ₁ => AsgIn g n sc fn ts l lm₁ μ₁ Q)
    (he : ∀ env, assignEach (t :: ts) env = (false, assign t env) :: assignEach ts env := by intro _; rfl) : AsgIn g n sc fn (t :: ts) (a :: l) lm μ Q := by
  intro A env H ρ s vs E hA O hnd B F r
  cases r with
  | cons h1 r =>
  rw [he]
  refine PyProof.Rows.assignInOrder_cons (wpAny_mono (h A env H ρ s _ E hA O hnd B F h1) ?_ fun _ _ x => x)
  rintro _ s₁ ⟨lm₁, μ₁, ρ₁, h₁, B₁, F₁, x₁⟩
  exact wpAny_mono (h₁ A env H ρ₁ s₁ _ E hA O hnd B₁ F₁ (r.mono (x₁.vis O.wof) x₁.pre)) (fun _ _ z => z.after x₁) fun _ _ x => x
theorem StoIn.nil {fn : Bool} {Q : Lm → List Cell → Prop} (q : Q lm μ) : StoIn g n sc fn [] [] lm μ Q := by
  intro A env H ρ s vs E hA O hnd B F r
  exact PyProof.Rows.assignInOrder_nil ⟨lm, μ, ρ, q, B, F, Ext.refl _ _ _⟩
theorem StoIn.cons {fn : Bool} {t : String} {ts : List String} {a : AV} {l : List AV} {Q : Lm → List Cell → Prop} (h : Sto g n sc fn t a lm μ fun lm₁ μ₁ => StoIn g n sc fn ts l lm₁ μ₁ Q) : StoIn g n sc fn (t :: ts) (a :: l) lm μ Q := by
  intro A env H ρ s vs E hA O hnd B F r
  cases r with
  | cons h1 r =>
  refine PyProof.Rows.assignInOrder_cons (wpAny_bindName (wpAny_mono (h A env H ρ s _ E hA O hnd B F h1) ?_ fun _ _ x => x))
  rintro _ s₁ ⟨lm₁, μ₁, ρ₁, h₁, B₁, F₁, x₁⟩
  exact wpAny_mono (h₁ A env H ρ₁ s₁ _ E hA O hnd B₁ F₁ (r.mono (x₁.vis O.wof) x₁.pre)) (fun _ _ z => z.after x₁) fun _ _ x => x

theorem extBut_ext {W : List Addr} {h' : Heap} (x : Heap.ExtBut s.heap.objs.size s.heap h') : (∀ b o, s.heap.get? b = some o → h'.get? b = some o) ∧ Ext W ρ ρ s { s with heap := h' } := by
  have hk : ∀ b o, s.heap.get? b = some o → h'.get? b = some o := fun b o e => x b o (Nat.ne_of_lt (Heap.lt_size e)) e
  exact ⟨hk, Sub.refl _, fun b o _ h2 e => ⟨hk b o e, h2⟩, fun b _ ⟨o, e⟩ => ⟨o, hk b o e⟩, rfl, rfl⟩

theorem Asg.tuple {fn : Bool} {elts : List Expr} {k : Nat} {pos : Pos} {l : List AV} {Q : Lm → List Cell → Prop} (h : AsgIn g n sc fn elts l lm μ Q) (hl : elts.length = l.length)
    (hn : ∀ env, (assignEach elts env).length = elts.length := by intro _; rfl) (hstar : ∀ env, (assignEach elts env).findIdx? (·.1) = none := by intro _; rfl) : Asg g n sc fn (.Tuple elts k pos) (.tup l) lm μ Q := by
  intro A env H ρ s v E hA O hnd B F r
  cases r with
  | @tup _ a its m ho hs =>
  have hsz : its.size = l.length := by rw [← hs.length]; simp
  refine assign_Tuple_tuple hA.handled ⟨_, ho.1, rfl, _, rfl⟩ (by rw [hn, hl, hsz]) (hstar env) fun h' he => ?_
  obtain ⟨hk, x⟩ := extBut_ext (W := []) (ρ := ρ) he
  exact wpAny_mono (h A env H ρ _ _ E hA O hnd (B.keeps hk) (F.ext0 B O x) (x.rvs0 hs)) (fun _ _ z => z.after (extBut_ext he).2) fun _ _ x => x
end
end
section
open PySem PySem.Spec PySem.Calls PyProof.Rows PySem.W

section
variable {g : Gd} {n : Nat} {sc : Scope} {lm : Lm} {μ : List Cell} {Q : Fl → Lm → List Cell → Prop}

theorem Ext.own {H ρ ρ' : List Addr} {s s' : Shared} {env : Env} (x : Ext [] ρ ρ' s s') (B : Base g H μ ρ s) (O : EnvOk sc env H) : Ext (own env) ρ ρ' s s' :=
  x.mono (fun _ q => nomatch q) fun a ha => B.disH (O.own a ha)
theorem PostS.after {H ρ ρ' : List Addr} {s s' s'' : Shared} {env : Env} {f : Flow} (x : Ext (own env) ρ ρ' s s') (h : PostS g env H ρ' s' Q f s'') : PostS g env H ρ s Q f s'' := by
  obtain ⟨fl, lm', μ', ρ'', q, B, F, y, r⟩ := h
  exact ⟨fl, lm', μ', ρ'', q, B, F, x.trans y, r⟩

theorem Exs.nil (q : Q .next lm μ) : Exs g n sc [] lm μ Q := by
  intro A env H ρ s E hA O Fn B F
  exact wpAny_execs_nil ⟨.next, lm, μ, ρ, q, B, F, Ext.refl _ _ _, trivial⟩
theorem Exs.cons {st : Stmt} {rest : List Stmt} (h : Ex g n sc st lm μ fun f lm₁ μ₁ => match f with | .next => Exs g n sc rest lm₁ μ₁ Q | f => Q f lm₁ μ₁) : Exs g n sc (st :: rest) lm μ Q := by
  intro A env H ρ s E hA O Fn B F
  refine wpAny_execs_cons (wpAny_mono (h A env H ρ s E hA O Fn B F) ?_ fun _ _ x => x)
  rintro f s₁ ⟨fl, lm₁, μ₁, ρ₁, q, B₁, F₁, x₁, r₁⟩
  cases fl with
  | next => cases f with
    | next => exact wpAny_mono (q A env H ρ₁ s₁ E hA O Fn B₁ F₁) (fun _ _ z => z.after x₁) fun _ _ x => x
    | _ => exact r₁.elim
  | brk => cases f with
    | brk => exact ⟨.brk, lm₁, μ₁, ρ₁, q, B₁, F₁, x₁, trivial⟩
    | _ => exact r₁.elim
  | cont => cases f with
    | cont => exact ⟨.cont, lm₁, μ₁, ρ₁, q, B₁, F₁, x₁, trivial⟩
    | _ => exact r₁.elim
  | ret a => cases f with
    | ret v => exact ⟨.ret a, lm₁, μ₁, ρ₁, q, B₁, F₁, x₁, r₁⟩
    | _ => exact r₁.elim
theorem Exs.weaken {b : List Stmt} {lm' : Lm} (h : Exs g n sc b lm' μ Q) (hl : ∀ x a, lm'.lookup x = some a → lm.lookup x = some a) : Exs g n sc b lm μ Q :=
  fun A env H ρ s E hA O Fn B F => h A env H ρ s E hA O Fn B (F.weaken hl)
theorem Exs.one {st : Stmt} (h : Ex g n sc st lm μ Q) : Exs g n sc [st] lm μ Q :=
  .cons (h.mono fun f l m q => by cases f <;> first | exact .nil q | exact q)

theorem PostS.ofA {H ρ : List Addr} {s s' : Shared} {env : Env} (h : PostA g true env H ρ s (fun lm' μ' => Q .next lm' μ') s') : PostS g env H ρ s Q .next s' := by
  obtain ⟨lm', μ', ρ', q, B, F, x⟩ := h
  exact ⟨.next, lm', μ', ρ', q, B, F, x, trivial⟩

theorem Ex.assign {x : String} {p pos : Pos} {value : Expr} (h : Ev g n sc value lm μ fun a μ₁ => Sto g n sc true x a lm μ₁ fun lm' μ' => Q .next lm' μ')
    (hs : ∀ env, swapsWith value (some (.Name (Str.ofString x) p)) pos.line env = pure false := by intro _; rfl) : Ex g n sc (.Assign [.Name (Str.ofString x) p] value pos) lm μ Q := by
  intro A env H ρ s E hA O Fn B F
  refine wpAny_Assign_Name (wpAny_mono (h A env H ρ s E hA O B F) ?_ fun _ _ x => x) (hs env)
  rintro v s₁ ⟨a, μ₁, ρ₁, h₁, B₁, x₁, r₁⟩
  exact wpAny_mono (h₁ A env H ρ₁ s₁ v E hA O Fn.nd B₁ (F.ext0 B O x₁) r₁) (fun _ _ z => (PostS.ofA z).after (x₁.own B O)) fun _ _ x => x

theorem Ex.assignT {elts : List Expr} {k : Nat} {p pos : Pos} {value : Expr} (h : Ev g n sc value lm μ fun a μ₁ => Asg g n sc true (.Tuple elts k p) a lm μ₁ fun lm' μ' => Q .next lm' μ')
    (hs : ∀ env, swapsWithSole [.Tuple elts k p] value pos.line env = pure false := by intro _; rfl) (hw : ∀ env, swappedStores [.Tuple elts k p] value env = pure none := by intro _; rfl) : Ex g n sc (.Assign [.Tuple elts k p] value pos) lm μ Q := by
  intro A env H ρ s E hA O Fn B F
  refine Assign_Tuple (wpAny_mono (h A env H ρ s E hA O B F) ?_ fun _ _ x => x) (hs env) (hw env)
  rintro v s₁ ⟨a, μ₁, ρ₁, h₁, B₁, x₁, r₁⟩
  exact wpAny_mono (h₁ A env H ρ₁ s₁ v E hA O Fn.nd B₁ (F.ext0 B O x₁) r₁) (fun _ _ z => (PostS.ofA z).after (x₁.own B O)) fun _ _ x => x

/-- a tuple display into two or three names: the stores run from the last to the first -/
theorem Ex.assignW {elts : List Expr} {k : Nat} {p pos : Pos} {value : Expr} (names : List String) (h : Ev g n sc value lm μ fun a μ₁ => ∃ l, a = .tup l ∧ l.length = names.length ∧ StoIn g n sc true names.reverse l.reverse lm μ₁ fun lm' μ' => Q .next lm' μ')
    (hw : ∀ env, EnvOk sc env (own env) → swappedStores [.Tuple elts k p] value env = pure (some (names.map Str.ofString)))
    (hs : ∀ env, swapsWithSole [.Tuple elts k p] value pos.line env = pure false := by intro _; rfl) : Ex g n sc (.Assign [.Tuple elts k p] value pos) lm μ Q := by
  intro A env H ρ s E hA O Fn B F
  have O' : EnvOk sc env (own env) := ⟨O.scope, O.kind, O.glob, O.blt, List.mem_cons_self, fun a ha => List.mem_cons_of_mem _ ha, O.ok⟩
  refine Assign_Tuple_swapped (names := names.map Str.ofString) (wpAny_mono (h A env H ρ s E hA O B F) ?_ fun _ _ x => x) (hs env) (hw env O')
  rintro v s₁ ⟨a, μ₁, ρ₁, ⟨l, rfl, hl, h₁⟩, B₁, x₁, r₁⟩
  cases r₁ with
  | @tup _ a its m ho hr =>
  have hsz : its.size = l.length := by rw [← hr.length]; simp
  rw [List.length_map, ← hl, ← hsz]
  refine unpackItems_tuple hA.handled ⟨_, ho.1, rfl, _, rfl⟩ fun h' he => ?_
  obtain ⟨hk, x⟩ := extBut_ext (W := []) (ρ := ρ₁) he
  have := h₁ A env H ρ₁ _ its.toList.reverse E hA O Fn.nd (B₁.keeps hk) ((F.ext0 B O x₁).ext0 B₁ O x) ((x.rvs0 hr).reverse)
  rw [← List.map_reverse, List.map_map]
  exact wpAny_mono this (fun _ _ z => (PostS.ofA z).after ((x₁.trans x).own B O)) fun _ _ x => x

theorem Ex.ite {test : Expr} {body orelse : List Stmt} {pos : Pos} (h : Tst g n sc test lm μ fun b μ₁ => (b = true → Exs g n sc body lm μ₁ Q) ∧ (b = false → Exs g n sc orelse lm μ₁ Q)) : Ex g n sc (.If test body orelse pos) lm μ Q := by
  intro A env H ρ s E hA O Fn B F
  refine wpAny_If (wpAny_mono (h A env H ρ s E hA O B F) ?_ fun _ _ x => x)
  rintro b s₁ ⟨μ₁, ρ₁, ⟨ht, hf⟩, B₁, x₁⟩
  cases b with
  | true => exact wpAny_mono (ht rfl A env H ρ₁ s₁ E hA O Fn B₁ (F.ext0 B O x₁)) (fun _ _ z => z.after (x₁.own B O)) fun _ _ x => x
  | false => exact wpAny_mono (hf rfl A env H ρ₁ s₁ E hA O Fn B₁ (F.ext0 B O x₁)) (fun _ _ z => z.after (x₁.own B O)) fun _ _ x => x
theorem Ex.ret {e : Expr} {pos : Pos} (h : Ev g n sc e lm μ fun a μ₁ => Q (.ret a) lm μ₁) : Ex g n sc (.Return (some e) pos) lm μ Q := by
  intro A env H ρ s E hA O Fn B F
  refine wpAny_Return_some (wpAny_mono (h A env H ρ s E hA O B F) ?_ fun _ _ x => x)
  rintro v s₁ ⟨a, μ₁, ρ₁, h₁, B₁, x₁, r₁⟩
  exact ⟨.ret a, lm, μ₁, ρ₁, h₁, B₁, F.ext0 B O x₁, x₁.own B O, r₁⟩
theorem Ex.ret0 {pos : Pos} (q : Q (.ret .none) lm μ) : Ex g n sc (.Return none pos) lm μ Q := by
  intro A env H ρ s E hA O Fn B F
  exact wpAny_Return_none ⟨.ret .none, lm, μ, ρ, q, B, F, Ext.refl _ _ _, .none⟩
theorem Ex.cont {pos : Pos} (q : Q .cont lm μ) : Ex g n sc (.Continue pos) lm μ Q := by
  intro A env H ρ s E hA O Fn B F
  exact wpAny_Continue ⟨.cont, lm, μ, ρ, q, B, F, Ext.refl _ _ _, trivial⟩
theorem Ex.pass {pos : Pos} (q : Q .next lm μ) : Ex g n sc (.Pass pos) lm μ Q := by
  intro A env H ρ s E hA O Fn B F
  exact wpAny_Pass ⟨.next, lm, μ, ρ, q, B, F, Ext.refl _ _ _, trivial⟩
theorem Ex.expr {e : Expr} {pos : Pos} (h : Ev g n sc e lm μ fun _ μ₁ => Q .next lm μ₁) (hs : ∀ env, swapsWith e none pos.line env = pure false := by intro _; rfl) : Ex g n sc (.Expr e pos) lm μ Q := by
  intro A env H ρ s E hA O Fn B F
  refine wpAny_Expr_any (wpAny_mono (h A env H ρ s E hA O B F) ?_ fun _ _ x => x) (by unfold interactive; rw [O.scope, O.kind]; rfl) (hs env)
  rintro v s₁ ⟨a, μ₁, ρ₁, h₁, B₁, x₁, r₁⟩
  exact ⟨.next, lm, μ₁, ρ₁, h₁, B₁, F.ext0 B O x₁, x₁.own B O, trivial⟩

theorem Ex.while {test : Expr} {body : List Stmt} {pos : Pos} (I : Nat → Lm → List Cell → Prop) (k : Nat) (hI : I k lm μ)
    (turn : ∀ k lm μ, I k lm μ → Tst g n sc test lm μ fun b μ₁ => (b = true → Exs g n sc body lm μ₁ fun f lm' μ' => match f with
      | .next | .cont => ∃ m, m < k ∧ I m lm' μ'
      | .brk => Q .next lm' μ'
      | .ret a => Q (.ret a) lm' μ') ∧ (b = false → Q .next lm μ₁)) : Ex g n sc (.While test body [] pos) lm μ Q := by
  intro A env H ρ s E hA O Fn B F
  refine wpAny_While (codeAny_whileLoop (fun m s' => ∃ lm' μ' ρ', I m lm' μ' ∧ Base g H μ' ρ' s' ∧ FrameAt env lm' H ρ' s'.heap ∧ Ext (own env) ρ ρ' s s') ?_ k ⟨lm, μ, ρ, hI, B, F, Ext.refl _ _ _⟩)
  rintro m s₁ ⟨lm₁, μ₁, ρ₁, hI₁, B₁, F₁, x₁⟩
  refine wpAny_mono (turn m lm₁ μ₁ hI₁ A env H ρ₁ s₁ _ hA O B₁ F₁) ?_ fun _ _ x => x
  rintro b s₂ ⟨μ₂, ρ₂, ⟨ht, hf⟩, B₂, x₂⟩
  have x12 := x₁.trans (x₂.own B₁ O)
  have F₂ := F₁.ext0 B₁ O x₂
  cases b with
  | false => exact wpAny_execs_nil ⟨.next, lm₁, μ₂, ρ₂, hf rfl, B₂, F₂, x12, trivial⟩
  | true =>
    refine wpAny_mono (ht rfl A env H ρ₂ s₂ _ hA O Fn B₂ F₂) ?_ fun _ _ x => x
    rintro f s₃ ⟨fl, lm₃, μ₃, ρ₃, q, B₃, F₃, x₃, r₃⟩
    cases fl with
    | next => cases f with
      | next => obtain ⟨m', hm, hI'⟩ := q; exact ⟨m', hm, lm₃, μ₃, ρ₃, hI', B₃, F₃, x12.trans x₃⟩
      | _ => exact r₃.elim
    | cont => cases f with
      | cont => obtain ⟨m', hm, hI'⟩ := q; exact ⟨m', hm, lm₃, μ₃, ρ₃, hI', B₃, F₃, x12.trans x₃⟩
      | _ => exact r₃.elim
    | brk => cases f with
      | brk => exact ⟨.next, lm₃, μ₃, ρ₃, q, B₃, F₃, x12.trans x₃, trivial⟩
      | _ => exact r₃.elim
    | ret a => cases f with
      | ret v => exact ⟨.ret a, lm₃, μ₃, ρ₃, q, B₃, F₃, x12.trans x₃, r₃⟩
      | _ => exact r₃.elim
end
end
section
open PySem PySem.Spec PySem.Calls PyProof.Rows PySem.W

/-- A thing that is called plainly. -/
inductive Kept (g : Gd) : Value → Prop
  | K {f : Value} (h : keepIn g.K f = true) : Kept g f
  | builtin (id : String) : Kept g (.builtin id)
  | type (T : String) : Kept g (.type T)

theorem keeps_ty {M : Model} {T : String} (h : Heap) : ∃ k, (k = Keeper.frame ∨ k = Keeper.machine ∨ k = Keeper.boundFrame) ∧ Looks M h (keeperOf (.type T)) k := ⟨.machine, .inr (.inl rfl), .of_pure rfl⟩
theorem keeps_bi {M : Model} {T : String} (h : Heap) : ∃ k, (k = Keeper.frame ∨ k = Keeper.machine ∨ k = Keeper.boundFrame) ∧ Looks M h (keeperOf (.builtin T)) k := ⟨.machine, .inr (.inl rfl), .of_pure rfl⟩

section
variable {g : Gd} {n : Nat} {sc : Scope} {lm : Lm} {μ : List Cell}

theorem Kept.keeps {f : Value} (k : Kept g f) {h : Heap} (X : g.K.In h) {M : Model} : ∃ k, (k = Keeper.frame ∨ k = Keeper.machine ∨ k = Keeper.boundFrame) ∧ Looks M h (keeperOf f) k := by
  cases k with
  | K hk => exact keeps_K hk h X
  | builtin id => exact keeps_bi h
  | type T => exact keeps_ty h

theorem callWith_any {M : Model} {A : Around} {E : Value → Shared → Prop} {s : Shared} {env : Env} {pos : Pos} {f : Value} {first : List Value} {e : Expr} {rest : List Expr} {P : Value → Shared → Prop} (k : Kept g f)
    (h : wpAny M A (spliced (backTo pos (starEach (e :: rest) env))) (fun vs s₁ => g.K.In s₁.heap ∧ wpAny M A (call f (first ++ vs)) P E s₁) E s)
    (he : starEach (e :: rest) env = (false, eval e env) :: starEach rest env) (hplain : (backTo pos (starEach rest env)).any (·.1) = false) : wpAny M A (callWith pos f first (backTo pos (starEach (e :: rest) env)) []) P E s := by
  rw [he] at h ⊢
  exact callWith_of (P := fun h => g.K.In h) (by show ((false || (backTo pos (starEach rest env)).any (·.1)) || false) = false; rw [hplain]; rfl) (fun h X => k.keeps X) (evalArgs_plain h)
theorem callWith_any0 {M : Model} {A : Around} {E : Value → Shared → Prop} {s : Shared} {env : Env} {pos : Pos} {f : Value} {first : List Value} {P : Value → Shared → Prop} (k : Kept g f) (X : g.K.In s.heap)
    (h : wpAny M A (call f first) P E s) : wpAny M A (callWith pos f first (backTo pos (starEach [] env)) []) P E s :=
  callWith_of (P := fun h => g.K.In h) rfl (fun h X => k.keeps X) (evalArgs_nil3 ⟨X, by rw [List.append_nil]; exact h⟩)

variable {P : AV → List Cell → Prop}
theorem Ev.call0 {func : Expr} {pos : Pos} (h : Ev g n sc func lm μ fun a μ₁ => ∃ f, a = .raw f ∧ Kept g f ∧ Call g n f [] μ₁ P)
    (hev : ∀ env, eval (.Call func [] [] pos) env = (do callWith pos (← eval func env) [] (backTo pos (starEach [] env)) (backToKw pos (keywordEach [] env))) := by intro _; rfl) : Ev g n sc (.Call func [] [] pos) lm μ P := by
  intro A env H ρ s E hA O B F
  refine Call_ (wpAny_mono (h A env H ρ s E hA O B F) ?_ fun _ _ x => x) (hev env)
  rintro v s₁ ⟨a, μ₁, ρ₁, ⟨f, rfl, k, hc⟩, B₁, x₁, r₁⟩
  cases r₁
  exact callWith_any0 k B₁.K (wpAny_mono (hc A H ρ₁ s₁ [] E hA B₁ .nil) (fun _ _ z => z.after x₁) fun _ _ x => x)
theorem Ev.call {func e : Expr} {rest : List Expr} {pos : Pos} (h : Ev g n sc func lm μ fun a μ₁ => ∃ f, a = .raw f ∧ Kept g f ∧ Evs g n sc (e :: rest) lm μ₁ fun l μ₂ => Call g n f l μ₂ P)
    (he : ∀ env, starEach (e :: rest) env = (false, eval e env) :: starEach rest env := by intro _; rfl) (hplain : ∀ env, (backTo pos (starEach rest env)).any (·.1) = false := by intro _; rfl)
    (hev : ∀ env, eval (.Call func (e :: rest) [] pos) env = (do callWith pos (← eval func env) [] (backTo pos (starEach (e :: rest) env)) (backToKw pos (keywordEach [] env))) := by intro _; rfl) : Ev g n sc (.Call func (e :: rest) [] pos) lm μ P := by
  intro A env H ρ s E hA O B F
  refine Call_ (wpAny_mono (h A env H ρ s E hA O B F) ?_ fun _ _ x => x) (hev env)
  rintro v s₁ ⟨a, μ₁, ρ₁, ⟨f, rfl, k, hc⟩, B₁, x₁, r₁⟩
  cases r₁
  refine callWith_any k (wpAny_mono (hc A env H ρ₁ s₁ pos E hA O B₁ (F.ext0 B O x₁)) ?_ fun _ _ x => x) (he env) (hplain env)
  rintro vs s₂ ⟨l, μ₂, ρ₂, h₂, B₂, x₂, r₂⟩
  exact ⟨B₂.K, wpAny_mono (h₂ A H ρ₂ s₂ vs E hA B₂ r₂) (fun _ _ z => z.after (x₁.trans x₂)) fun _ _ x => x⟩

/-- how a method is found -/
noncomputable def MethV (g : Gd) (n : Nat) (x : Str) (a : AV) (f : Value) (μ : List Cell) : Prop :=
  ∀ (A : Around) (H ρ : List Addr) (s : Shared) (va : Value) (pl : Sem Bool) (E : Value → Shared → Prop), OkA n A → Base g H μ ρ s → RV (Vis H ρ s.heap) ρ a va →
    wpAny (model g.prog g.w) A (getMethod va x pl) (fun fx s' => fx = (f, [va]) ∧ s'.heap = s.heap ∧ s'.gens = s.gens ∧ s'.os = s.os) E s
theorem Ev.meth0 {o : Expr} {x : Str} {apos pos : Pos} (h : Ev g n sc o lm μ fun a μ₁ => ∃ f, MethV g n x a f μ₁ ∧ Kept g f ∧ Call g n f [a] μ₁ P)
    (he : ∀ env, ∃ pl, eval (.Call (.Attribute o x apos) [] [] pos) env = (do
      let ov ← eval o env
      standAt apos.atName
      let (f, first) ← holding [ov] (getMethod ov x pl)
      callWith pos f first (backTo pos (starEach [] env)) (backToKw pos (keywordEach [] env))) := by intro _; exact ⟨_, rfl⟩) : Ev g n sc (.Call (.Attribute o x apos) [] [] pos) lm μ P := by
  intro A env H ρ s E hA O B F
  obtain ⟨pl, he⟩ := he env
  refine methodCall_KW (wpAny_mono (h A env H ρ s E hA O B F) ?_ fun _ _ x => x) he
  rintro va s₁ ⟨a, μ₁, ρ₁, ⟨f, hm, k, hc⟩, B₁, x₁, r₁⟩
  refine wpAny_mono (hm A H ρ₁ s₁ va pl E hA B₁ r₁) ?_ fun _ _ x => x
  rintro fx s₂ ⟨rfl, hh, hg, hos⟩
  have hk : ∀ b o, s₁.heap.get? b = some o → s₂.heap.get? b = some o := fun b o e => by rw [hh]; exact e
  have B₂ := B₁.keeps hk
  have x₂ : Ext [] ρ₁ ρ₁ s₁ s₂ := Ext.keeps hk hg hos
  exact callWith_any0 k B₂.K (wpAny_mono (hc A H ρ₁ s₂ [va] E hA B₂ (.cons (x₂.rv0 r₁) .nil)) (fun _ _ z => z.after (x₁.trans x₂)) fun _ _ x => x)
theorem Ev.meth {o e : Expr} {rest : List Expr} {x : Str} {apos pos : Pos} (h : Ev g n sc o lm μ fun a μ₁ => ∃ f, MethV g n x a f μ₁ ∧ Kept g f ∧ Evs g n sc (e :: rest) lm μ₁ fun l μ₂ => Call g n f (a :: l) μ₂ P)
    (he : ∀ env, ∃ pl, eval (.Call (.Attribute o x apos) (e :: rest) [] pos) env = (do
      let ov ← eval o env
      standAt apos.atName
      let (f, first) ← holding [ov] (getMethod ov x pl)
      callWith pos f first (backTo pos (starEach (e :: rest) env)) (backToKw pos (keywordEach [] env))) := by intro _; exact ⟨_, rfl⟩)
    (he' : ∀ env, starEach (e :: rest) env = (false, eval e env) :: starEach rest env := by intro _; rfl) (hplain : ∀ env, (backTo pos (starEach rest env)).any (·.1) = false := by intro _; rfl) : Ev g n sc (.Call (.Attribute o x apos) (e :: rest) [] pos) lm μ P := by
  intro A env H ρ s E hA O B F
  obtain ⟨pl, he⟩ := he env
  refine methodCall_KW (wpAny_mono (h A env H ρ s E hA O B F) ?_ fun _ _ x => x) he
  rintro va s₁ ⟨a, μ₁, ρ₁, ⟨f, hm, k, hc⟩, B₁, x₁, r₁⟩
  refine wpAny_mono (hm A H ρ₁ s₁ va pl E hA B₁ r₁) ?_ fun _ _ x => x
  rintro fx s₂ ⟨rfl, hh, hg, hos⟩
  have hk : ∀ b o, s₁.heap.get? b = some o → s₂.heap.get? b = some o := fun b o e => by rw [hh]; exact e
  have B₂ := B₁.keeps hk
  have x₂ : Ext [] ρ₁ ρ₁ s₁ s₂ := Ext.keeps hk hg hos
  refine callWith_any k (wpAny_mono (hc A env H ρ₁ s₂ pos E hA O B₂ ((F.ext0 B O x₁).ext0 B₁ O x₂)) ?_ fun _ _ x => x) (he' env) (hplain env)
  rintro vs s₃ ⟨l, μ₃, ρ₃, h₃, B₃, x₃, r₃⟩
  exact ⟨B₃.K, wpAny_mono (h₃ A H ρ₃ s₃ (va :: vs) E hA B₃ (.cons (x₃.rv0 (x₂.rv0 r₁)) r₃)) (fun _ _ z => z.after (x₁.trans (x₂.trans x₃))) fun _ _ x => x⟩
end
end
section
open PySem PySem.Spec PySem.Calls PyProof.Rows PySem.W

/-- An iterator, its own objects hidden. -/
structure Itr (g : Gd) (n : Nat) (tgt : Expr) (it : Value) (O : List Addr) (items : List AV) (need : List Cell → Prop) (St : Nat → List Addr → List Addr → Shared → Prop) : Prop where
  frame : ∀ i H H' ρ ρ' s s', St i H ρ s → (∀ a ∈ O, ∀ o, s.heap.get? a = some o → s'.heap.get? a = some o) → (∀ a o, Vis H ρ s.heap a o → Vis H' ρ' s'.heap a o) → Sub ρ ρ' → St i H' ρ' s'
  next : ∀ A H ρ s μ i E, OkA n A → Base g H μ ρ s → need μ → (∀ a ∈ O, a ∈ H) → St i H ρ s →
    wpAny (model g.prog g.w) A (pyNext it) (fun r s₁ => match r with
      | none => items.length ≤ i ∧ (∀ b o, b ∉ O → s.heap.get? b = some o → s₁.heap.get? b = some o) ∧ s₁.gens = s.gens ∧ s₁.os = s.os
      | some v => wpAny (model g.prog g.w) A (letOwnedTupleGo tgt it v) (fun _ s₂ => ∃ a, items[i]? = some a ∧ Base g H μ ρ s₂ ∧ Ext O ρ ρ s s₂ ∧ RV (Vis H ρ s₂.heap) ρ a v ∧ St (i + 1) H ρ s₂) E s₁) E s
  self : ∀ A H ρ s i E (Q : Value → Shared → Prop), OkA n A → St i H ρ s → Q it s → wpAny (model g.prog g.w) A (pyIter it) Q E s

/-- What stands behind `for .. in e`. -/
noncomputable def EvI (g : Gd) (n : Nat) (sc : Scope) (tgt e : Expr) (lm : Lm) (μ : List Cell) (P : List AV → (List Cell → Prop) → List Cell → Prop) : Prop :=
  ∀ (A : Around) (env : Env) (H ρ : List Addr) (s : Shared) (E : Value → Shared → Prop), OkA n A → EnvOk sc env H → Base g H μ ρ s → FrameAt env lm H ρ s.heap →
    wpAny (model g.prog g.w) A (eval e env) (fun x s₁ => wpAny (model g.prog g.w) A (pyIter x) (fun it s₂ => ∃ items need μ' ρ' O St, P items need μ' ∧ need μ' ∧ Itr g n tgt it O items need St ∧
      Base g (O ++ H) μ' ρ' s₂ ∧ St 0 (O ++ H) ρ' s₂ ∧ (∀ a ∈ O, s.heap.get? a = none) ∧ Ext [] ρ ρ' s s₂) E s₁) E s

theorem EnvOk.more {sc : Scope} {env : Env} {H O : List Addr} (x : EnvOk sc env H) : EnvOk sc env (O ++ H) := ⟨x.scope, x.kind, x.glob, x.blt, List.mem_append_right _ x.loc, fun a ha => List.mem_append_right _ (x.cells a ha), x.ok⟩

section
variable {g : Gd} {n : Nat} {sc : Scope} {lm : Lm} {μ : List Cell} {Q : Fl → Lm → List Cell → Prop}

theorem Vis.into {H O ρ ρ' : List Addr} {s s' : Shared} (x : Ext [] ρ ρ' s s') (hO : ∀ a ∈ O, s.heap.get? a = none) : ∀ a o, Vis H ρ s.heap a o → Vis (O ++ H) ρ' s'.heap a o := fun a o z =>
  let k := x.keep a o (fun q => nomatch q) z.2.2 z.1
  ⟨k.1, fun q => (List.mem_append.mp q).elim (fun q => by have := hO a q; rw [z.1] at this; cases this) z.2.1, k.2⟩
theorem FrameAt.into {env : Env} {H O ρ ρ' : List Addr} {s s' : Shared} (F : FrameAt env lm H ρ s.heap) (Oe : EnvOk sc env H) (B : Base g H μ ρ s) (x : Ext [] ρ ρ' s s') (hO : ∀ a ∈ O, s.heap.get? a = none) : FrameAt env lm (O ++ H) ρ' s'.heap := by
  have hv := Vis.into (H := H) x hO
  refine ⟨?_, ?_⟩
  · obtain ⟨m, ⟨o, es, ep, ho, r⟩, hm⟩ := F.ns
    exact ⟨m, ⟨o, es, ep, (x.keep _ o (fun q => nomatch q) (B.disH Oe.loc) ho).1, r⟩, fun y hy => (hm y hy).mono hv x.pre⟩
  · intro y hy
    obtain ⟨c, v, h1, ⟨o, ho, hd⟩, h3⟩ := F.cells y hy
    exact ⟨c, v, h1, ⟨o, (x.keep _ o (fun q => nomatch q) (B.disH (Oe.cells _ (ocells_in (PySem.mem_of_lookup h1) hy))) ho).1, hd⟩, h3.mono hv x.pre⟩
theorem FrameAt.leave {env : Env} {H O ρ : List Addr} {h : Heap} (F : FrameAt env lm (O ++ H) ρ h) : FrameAt env lm H ρ h := by
  have hv : ∀ a o, Vis (O ++ H) ρ h a o → Vis H ρ h a o := fun a o z => z.less
  refine ⟨?_, ?_⟩
  · obtain ⟨m, hn, hm⟩ := F.ns
    exact ⟨m, hn, fun y hy => (hm y hy).mono hv (Sub.refl _)⟩
  · intro y hy
    obtain ⟨c, v, h1, h2, h3⟩ := F.cells y hy
    exact ⟨c, v, h1, h2, h3.mono hv (Sub.refl _)⟩
/-- hidden objects are left behind, whatever became of them -/
theorem Base.lose {H O ρ : List Addr} {s s' : Shared} (B : Base g (O ++ H) μ ρ s) (hO : ∀ a ∈ O, a ∉ H) (hk : ∀ b o, b ∉ O → s.heap.get? b = some o → s'.heap.get? b = some o) : Base g H μ ρ s' ∧ ∀ a o, Vis (O ++ H) ρ s.heap a o → Vis H ρ s'.heap a o := by
  have hv : ∀ a o, Vis (O ++ H) ρ s.heap a o → Vis H ρ s'.heap a o := fun a o z => ⟨hk a o (fun q => z.2.1 (List.mem_append_left _ q)) z.1, fun q => z.2.1 (List.mem_append_right _ q), z.2.2⟩
  refine ⟨⟨B.ok, fun b o e => hv b o (B.old b o e), B.len, B.nd, fun a ha q => B.dis a ha (List.mem_append_right _ q), B.sys, fun a ha => ?_, fun i c a hc ha => ?_⟩, hv⟩
  · obtain ⟨o, e⟩ := B.lt a (List.mem_append_right _ ha)
    exact ⟨o, hk a o (fun q => hO a q ha) e⟩
  · exact (B.cell i c a hc ha).keeps hv (Sub.refl _) fun o e => hk a o (fun q => B.dis a (List.mem_of_getElem? ha) (List.mem_append_left _ q)) e

theorem FrameAt.lose {env : Env} {H O ρ : List Addr} {s s' : Shared} (F : FrameAt env lm (O ++ H) ρ s.heap) (_Oe : EnvOk sc env H) (hk : ∀ b o, b ∉ O → s.heap.get? b = some o → s'.heap.get? b = some o)
    (hv : ∀ a o, Vis (O ++ H) ρ s.heap a o → Vis H ρ s'.heap a o) (hO : ∀ a ∈ O, a ∉ own env) : FrameAt env lm H ρ s'.heap := by
  refine ⟨?_, ?_⟩
  · obtain ⟨m, ⟨o, es, ep, ho, r⟩, hm⟩ := F.ns
    exact ⟨m, ⟨o, es, ep, hk _ o (fun q => hO _ q List.mem_cons_self) ho, r⟩, fun y hy => (hm y hy).mono hv (Sub.refl _)⟩
  · intro y hy
    obtain ⟨c, v, h1, ⟨o, ho, hd⟩, h3⟩ := F.cells y hy
    exact ⟨c, v, h1, ⟨o, hk _ o (fun q => hO _ q (List.mem_cons_of_mem _ (ocells_in (PySem.mem_of_lookup h1) hy))) ho, hd⟩, h3.mono hv (Sub.refl _)⟩

theorem Ext.less {W O ρ ρ₁ ρ₂ : List Addr} {s s₁ s₂ : Shared} (x : Ext [] ρ ρ₁ s s₁) (y : Ext (O ++ W) ρ₁ ρ₂ s₁ s₂) (hO : ∀ a ∈ O, s.heap.get? a = none) (hW : ∀ a ∈ W, a ∉ ρ) : Ext W ρ ρ₂ s s₂ := by
  refine ⟨x.pre.trans y.pre, fun b o h1 h2 e => ?_, fun b hb ⟨o, e⟩ => ?_, y.gens.trans x.gens, y.os.trans x.os⟩
  · have z := x.keep b o (fun q => nomatch q) h2 e
    exact y.keep b o (fun q => (List.mem_append.mp q).elim (fun q => by have := hO b q; rw [e] at this; cases this) h1) z.2 z.1
  · have z := x.keep b o (fun q => nomatch q) (hW b hb) e
    exact y.there b (List.mem_append_right _ hb) ⟨o, z.1⟩

theorem Ext.grow {W W' ρ ρ' : List Addr} {s s' : Shared} (x : Ext W ρ ρ' s s') {H : List Addr} (B : Base g H μ ρ s) (h : ∀ a ∈ W, a ∈ W') (hW : ∀ a ∈ W', a ∈ H) : Ext W' ρ ρ' s s' := x.mono h fun a ha => B.disH (hW a ha)

theorem Ex.for {tgt iter : Expr} {body : List Stmt} {pos : Pos}
    (h : EvI g n sc tgt iter lm μ fun items need μ₁ => ∃ I : Nat → Lm → List Cell → Prop, I 0 lm μ₁ ∧ (∀ i lm' μ', I i lm' μ' → need μ') ∧
      (∀ i a lm' μ', items[i]? = some a → I i lm' μ' → Asg g n sc true tgt a lm' μ' fun lm'' μ'' => Exs g n sc body lm'' μ'' fun f l m => match f with
        | .next | .cont => I (i + 1) l m
        | .brk => Q .next l m
        | .ret a => Q (.ret a) l m) ∧ (∀ lm' μ', I items.length lm' μ' → Q .next lm' μ'))
    (hs : ∀ env x, foldedSetIterable iter env x = pure x := by intro _ _; rfl) : Ex g n sc (.For tgt iter body [] pos) lm μ Q := by
  intro A env H ρ s E hA Oe Fn B F
  refine wpAny_For (wpAny_mono (h A env H ρ s E hA Oe B F) (fun x s₁ h₁ => wpAny_mono h₁ ?_ fun _ _ x => x) fun _ _ x => x) (hs env)
  rintro it s₂ ⟨items, need, μ₂, ρ₂, O, St, ⟨I, hI0, hneed, hturn, hend⟩, _, T, B₂, hSt, hO, x₂⟩
  have F₂ := F.into Oe B x₂ hO
  have O₂ : EnvOk sc env (O ++ H) := Oe.more
  have hOo : ∀ a ∈ O, a ∉ own env := fun a ha q => by
    obtain ⟨o, e⟩ := B.lt a (Oe.own a q)
    have := hO a ha; rw [e] at this; cases this
  have hOH : ∀ a ∈ O, a ∈ O ++ H := fun a ha => List.mem_append_left _ ha
  have hWH : ∀ a ∈ O ++ own env, a ∈ O ++ H := fun a ha => (List.mem_append.mp ha).elim (fun q => List.mem_append_left _ q) fun q => List.mem_append_right _ (Oe.own a q)
  refine codeAny_forLoop_any (fun k s' => ∃ i lm' μ' ρ', i ≤ items.length ∧ k = items.length + 1 - i ∧ I i lm' μ' ∧ Base g (O ++ H) μ' ρ' s' ∧ FrameAt env lm' (O ++ H) ρ' s'.heap ∧ St i (O ++ H) ρ' s' ∧ Ext (O ++ own env) ρ₂ ρ' s₂ s') ?_ (items.length + 1)
    ⟨0, lm, μ₂, ρ₂, Nat.zero_le _, rfl, hI0, B₂, F₂, hSt, Ext.refl _ _ _⟩
  rintro k s₃ ⟨i, lm₃, μ₃, ρ₃, hi, rfl, hI, B₃, F₃, hSt₃, x₃⟩
  have fin : ∀ {fl : Fl} {f : Flow} {lm' : Lm} {μ' : List Cell} {ρ' : List Addr} {s' : Shared}, Q fl lm' μ' → Base g (O ++ H) μ' ρ' s' → FrameAt env lm' (O ++ H) ρ' s'.heap → Ext (O ++ own env) ρ₂ ρ' s₂ s' → RFl (Vis (O ++ H) ρ' s'.heap) ρ' fl f → PostS g env H ρ s Q f s' := by
    intro fl f lm' μ' ρ' s' q B' F' x' r'
    refine ⟨fl, lm', μ', ρ', q, B'.leave, F'.leave, Ext.less x₂ x' hO fun a ha => B.disH (Oe.own a ha), ?_⟩
    cases fl <;> cases f <;> first | trivial | exact r'.elim | exact r'.less
  refine wpAny_mono (T.next A (O ++ H) ρ₃ s₃ μ₃ i _ hA B₃ (hneed _ _ _ hI) hOH hSt₃) ?_ fun _ _ x => x
  intro r s₄ hr
  cases r with
  | none =>
    obtain ⟨hle, hk₄, hg₄, ho₄⟩ := hr
    have : i = items.length := by omega
    subst this
    have hOnH : ∀ a ∈ O, a ∉ H := fun a ha q => by
      obtain ⟨o, e⟩ := B.lt a q
      rw [hO a ha] at e; cases e
    obtain ⟨B₄, hv₄⟩ := B₃.lose hOnH hk₄
    refine wpAny_execs_nil ⟨.next, lm₃, μ₃, ρ₃, hend _ _ hI, B₄, F₃.lose Oe hk₄ hv₄ hOo, ?_, trivial⟩
    have x03 : Ext (own env) ρ ρ₃ s s₃ := Ext.less x₂ x₃ hO fun a ha => B.disH (Oe.own a ha)
    refine ⟨x03.pre, fun b o h1 h2 e => ?_, fun b hb h => ?_, hg₄.trans x03.gens, ho₄.trans x03.os⟩
    · have z := x03.keep b o h1 h2 e
      exact ⟨hk₄ b o (fun q => by rw [hO b q] at e; cases e) z.1, z.2⟩
    · obtain ⟨o, e⟩ := x03.there b hb h
      exact ⟨o, hk₄ b o (fun q => hOo b q hb) e⟩
  | some v =>
    refine wpAny_mono hr ?_ fun _ _ x => x
    rintro _ s₅ ⟨a, ha, B₅, x₅, r₅, hSt₅⟩
    have hlt : i < items.length := by
      rcases Nat.lt_or_ge i items.length with q | q
      · exact q
      · rw [List.getElem?_eq_none q] at ha; cases ha
    have F₅ := F₃.ext B₃ O₂ x₅ hOH (fun q => hOo _ q List.mem_cons_self) fun a ha q => hOo _ q (List.mem_cons_of_mem _ ha)
    have x35 := x₃.trans (x₅.grow B₃ (fun a ha => List.mem_append_left _ ha) hWH)
    refine wpAny_mono (hturn i a lm₃ μ₃ ha hI A env (O ++ H) ρ₃ s₅ v _ hA O₂ Fn.nd B₅ F₅ r₅) ?_ fun _ _ x => x
    rintro _ s₆ ⟨lm₆, μ₆, ρ₆, h₆, B₆, F₆, x₆⟩
    refine wpAny_mono (h₆ A env (O ++ H) ρ₆ s₆ _ hA O₂ Fn B₆ F₆) ?_ fun _ _ x => x
    rintro f s₇ ⟨fl, lm₇, μ₇, ρ₇, q, B₇, F₇, x₇, r₇⟩
    have x57 : Ext (own env) ρ₃ ρ₇ s₅ s₇ := Ext.trans (W := own env) x₆ x₇
    have x37 := x35.trans (x57.grow B₅ (fun a ha => List.mem_append_right _ ha) hWH)
    have hSt₇ : St (i + 1) (O ++ H) ρ₇ s₇ := T.frame (i + 1) _ _ ρ₃ ρ₇ s₅ s₇ hSt₅ (fun a ha o e => (x57.keep a o (hOo a ha) (B₅.disH (hOH a ha)) e).1) (x57.vis fun a ha => List.mem_append_right _ (Oe.own a ha)) x57.pre
    cases fl with
    | next => cases f with
      | next => exact ⟨items.length + 1 - (i + 1), by omega, i + 1, lm₇, μ₇, ρ₇, hlt, rfl, q, B₇, F₇, hSt₇, x37⟩
      | _ => exact r₇.elim
    | cont => cases f with
      | cont => exact ⟨items.length + 1 - (i + 1), by omega, i + 1, lm₇, μ₇, ρ₇, hlt, rfl, q, B₇, F₇, hSt₇, x37⟩
      | _ => exact r₇.elim
    | brk => cases f with
      | brk => exact fin (fl := .next) q B₇ F₇ x37 trivial
      | _ => exact r₇.elim
    | ret a => cases f with
      | ret v => exact fin (fl := .ret a) q B₇ F₇ x37 r₇
      | _ => exact r₇.elim
end
end
section
open PySem PySem.Spec PySem.Calls PyProof.Rows PySem.W

noncomputable def Inc : Lm → Lm → Prop
  | [], _ => True
  | (x, a) :: r, lm => lm.lookup x = some a ∧ Inc r lm
theorem mem_of_lookupS {l : Lm} {x : String} {a : AV} (h : l.lookup x = some a) : (x, a) ∈ l := by
  induction l with
  | nil => simp at h
  | cons p r ih =>
    obtain ⟨y, b⟩ := p
    simp only [List.lookup_cons] at h
    by_cases q : x == y
    · simp only [q] at h; cases h; rw [eq_of_beq q]; exact List.mem_cons_self
    · simp only [q] at h; exact List.mem_cons_of_mem _ (ih h)
theorem Inc.mem : ∀ {l lm : Lm}, Inc l lm → ∀ p ∈ l, lm.lookup p.1 = some p.2
  | [], _, _, p, hp => by simp at hp
  | (x, a) :: r, lm, ⟨h1, h2⟩, p, hp => by
    rcases List.mem_cons.mp hp with rfl | hp
    · exact h1
    · exact Inc.mem h2 p hp
theorem Inc.look {l lm : Lm} (h : Inc l lm) : ∀ x a, l.lookup x = some a → lm.lookup x = some a := fun _ _ e => h.mem _ (mem_of_lookupS e)

/-- the tests of a comprehension -/
noncomputable def IfsV (g : Gd) (n : Nat) (sc : Scope) (ifs : List Expr) (lm : Lm) (μ : List Cell) (P : Bool → List Cell → Prop) : Prop :=
  ∀ (A : Around) (env : Env) (H ρ : List Addr) (s : Shared) (E : Value → Shared → Prop), OkA n A → EnvOk sc env H → Base g H μ ρ s → FrameAt env lm H ρ s.heap →
    wpAny (model g.prog g.w) A (forIn ifs true fun c r => if r = true then do let ok ← isTrue c env (eval c env); pure (ForInStep.yield ok) else pure (ForInStep.yield r)) (fun b s' => ∃ μ' ρ', P b μ' ∧ Base g H μ' ρ' s' ∧ Ext [] ρ ρ' s s') E s

noncomputable def rel (scope sc : Scope) : Scope :=
  { scope with names := scope.names.map fun (n, k) => if (k == .free && sc.kind == .function && sc.names.lookup n == some .cell) then (n, .cell) else (n, k) }
theorem relabel_eq (scope : Scope) (env : Env) : relabel scope env = rel scope env.scope := rfl

theorem closure_go (env : Env) : ∀ (names : List (Str × NameKind)) (acc : List (Str × Addr)), (∀ p ∈ names, p.2 = .free → ∃ c, env.cells.lookup p.1 = some c) → (∀ p ∈ acc, env.cells.lookup p.1 = some p.2) →
    ∃ cl, (forIn names acc (fun p r => if (p.2 == NameKind.free) = true then do let c ← cellOf env p.1; pure (ForInStep.yield ((p.1, c) :: r)) else pure (ForInStep.yield r)) : Sem (List (Str × Addr))) = pure cl ∧ (∀ p ∈ cl, env.cells.lookup p.1 = some p.2) ∧ (∀ p ∈ acc, p ∈ cl) ∧ (∀ p ∈ names, p.2 = .free → ∃ c, (p.1, c) ∈ cl) ∧ (∀ p ∈ cl, p ∈ acc ∨ (p.1, NameKind.free) ∈ names)
  | [], acc, _, ha => ⟨acc, rfl, ha, fun _ h => h, fun _ q => (nomatch q), fun _ h => .inl h⟩
  | (x, k) :: names, acc, hn, ha => by
    rw [List.forIn_cons]
    by_cases hk : k = .free
    · subst hk
      obtain ⟨c, hc⟩ := hn (x, .free) List.mem_cons_self rfl
      obtain ⟨cl, h1, h2, h3, h4, h5⟩ := closure_go env names ((x, c) :: acc) (fun p hp => hn p (List.mem_cons_of_mem _ hp)) (fun p hp => by
        rcases List.mem_cons.mp hp with rfl | hp
        · exact hc
        · exact ha p hp)
      refine ⟨cl, ?_, h2, fun p hp => h3 p (List.mem_cons_of_mem _ hp), fun p hp hf => ?_, fun p hp => (h5 p hp).elim (fun q => (List.mem_cons.mp q).elim (fun e => .inr (by rw [e]; exact List.mem_cons_self)) .inl) fun q => .inr (List.mem_cons_of_mem _ q)⟩
      · have : cellOf env x = pure c := by unfold cellOf; rw [hc]
        simp only [beq_self_eq_true, if_true, this, pure_bind]
        exact h1
      · rcases List.mem_cons.mp hp with rfl | hp
        · exact ⟨c, h3 _ List.mem_cons_self⟩
        · exact h4 p hp hf
    · obtain ⟨cl, h1, h2, h3, h4, h5⟩ := closure_go env names acc (fun p hp => hn p (List.mem_cons_of_mem _ hp)) ha
      refine ⟨cl, ?_, h2, h3, fun p hp hf => ?_, fun p hp => (h5 p hp).elim .inl fun q => .inr (List.mem_cons_of_mem _ q)⟩
      · have : (k == NameKind.free) = false := by simpa using hk
        simp only [this, Bool.false_eq_true, if_false, pure_bind]
        exact h1
      · rcases List.mem_cons.mp hp with rfl | hp
        · exact absurd hf hk
        · exact h4 p hp hf
theorem closure_ok (scope : Scope) (env : Env) (hn : ∀ p ∈ scope.names, p.2 = .free → ∃ c, env.cells.lookup p.1 = some c) :
    ∃ cl, closureFor scope env = pure cl ∧ (∀ p ∈ cl, env.cells.lookup p.1 = some p.2) ∧ (∀ p ∈ scope.names, p.2 = .free → ∃ c, (p.1, c) ∈ cl) ∧ ∀ p ∈ cl, (p.1, NameKind.free) ∈ scope.names := by
  obtain ⟨cl, h1, h2, _, h4, h5⟩ := closure_go env scope.names [] hn (fun _ q => nomatch q)
  refine ⟨cl, ?_, h2, h4, fun p hp => (h5 p hp).elim (fun q => nomatch q) id⟩
  unfold closureFor
  refine Eq.trans ?_ h1
  exact (bind_pure _).trans rfl

theorem lookup_of_memS {l : List (Str × Addr)} {x : Str} {c : Addr} (h : (x, c) ∈ l) : ∃ c', l.lookup x = some c' := by
  induction l with
  | nil => simp at h
  | cons p r ih =>
    obtain ⟨y, d⟩ := p
    simp only [List.lookup_cons]
    by_cases q : x == y
    · simp only [q]; exact ⟨d, rfl⟩
    · simp only [q]
      rcases List.mem_cons.mp h with e | e
      · cases e; exact absurd (beq_self_eq_true x) q
      · exact ih e

section
variable {g : Gd} {n : Nat} {sc : Scope} {lm : Lm} {μ : List Cell}
theorem IfsV.nil {P : Bool → List Cell → Prop} (p : P true μ) : IfsV g n sc [] lm μ P := by
  intro A env H ρ s E hA O B F
  exact wpAny_tests_nil ⟨μ, ρ, p, B, Ext.refl _ _ _⟩
theorem IfsV.one {c : Expr} {P : Bool → List Cell → Prop} (h : Tst g n sc c lm μ P) : IfsV g n sc [c] lm μ P := by
  intro A env H ρ s E hA O B F
  exact wpAny_tests_one (h A env H ρ s E hA O B F)

theorem codeAny_compLoop_any {A : Around} {prog : Program} {w : World} {R : Result → Shared → Prop} {s : Shared} {elt target iter : Expr} {ifs : List Expr} {scope : Scope} {pos : Pos} {it acc : Value} {env : Env} (I : Nat → Shared → Prop)
    (turn : ∀ n s, I n s → wpAny (model prog w) A (pyNext it) (fun r s₁ => match r with
      | none => R (.ok .next) s₁
      | some v => wpAny (model prog w) A (letOwnedTupleGo target it v) (fun _ s₁' => wpAny (model prog w) A (assign target env v) (fun _ s₂ =>
          wpAny (model prog w) A (forIn ifs true fun c r => if r = true then do let ok ← isTrue c env (eval c env); pure (ForInStep.yield ok) else pure (ForInStep.yield r)) (fun ok s₃ =>
            (ok = true → wpAny (model prog w) A (eval elt env) (fun x s₄ =>
              wpAny (model prog w) A (call (.builtin "list.append") [acc, x]) (fun _ s₅ => ∃ m, m < n ∧ I m s₅) (notedBy (model prog w) A env fun e s' => R (.error e) s') s₄) (notedBy (model prog w) A env fun e s' => R (.error e) s') s₃) ∧
            (ok = false → ∃ m, m < n ∧ I m s₃)) (notedBy (model prog w) A env fun e s' => R (.error e) s') s₂) (notedBy (model prog w) A env fun e s' => R (.error e) s') s₁') (notedBy (model prog w) A env fun e s' => R (.error e) s') s₁) (notedBy (model prog w) A env fun e s' => R (.error e) s') s)
    (n : Nat) (h : I n s) : codeAny (model prog w) A (.compLoop (.ListComp elt [⟨target, iter, ifs, 0⟩] scope pos) 0 it acc env) R s := by
  refine codeAny_loop rfl I (fun n s hI => ?_) n h
  show wpAny _ A ((compTurn (.ListComp elt [⟨target, iter, ifs, 0⟩] scope pos) 0 it acc env).onRaise (fun x => do noteFrame x env; theTreesLotGoes x)) _ _ s
  refine wpAny_noted ?_
  rw [compTurn_list]
  refine wpAny_bind (wpAny_standAt (wpAny_bind (wpAny_mono (turn n s hI) (fun r s₁ h₁ => ?_) fun _ _ h' => h')))
  cases r with
  | none => exact wpAny_pure h₁
  | some v =>
    refine wpAny_bind (wpAny_mono h₁ (fun _ s₁' h₁' => ?_) fun _ _ h' => h')
    refine wpAny_bind (wpAny_mono h₁' (fun _ s₂ h₂ => wpAny_bind (wpAny_mono h₂ (fun ok s₃ h₃ => ?_) fun _ _ h' => h')) fun _ _ h' => h')
    cases ok with
    | false => exact wpAny_pure ⟨rfl, h₃.2 rfl⟩
    | true =>
      exact wpAny_bind (wpAny_bind (wpAny_mono (h₃.1 rfl) (fun x s₄ h₄ => wpAny_bind (wpAny_mono h₄ (fun _ s₅ h₅ => wpAny_pure (wpAny_pure ⟨rfl, h₅⟩)) fun _ _ h' => h')) fun _ _ h' => h'))

/-- the names of a comprehension are laid as the compiler lays them -/
noncomputable def compNames (scope sc : Scope) (lm₀ : Lm) : Bool :=
  (scope.names.filter (fun p => p.2 == .free)).map (·.1) == lm₀.map (fun p => Str.ofString p.1) &&
  lm₀.all (fun p => sc.names.lookup (Str.ofString p.1) == some .cell && (rel scope sc).names.lookup (Str.ofString p.1) == some .cell) &&
  scope.names.all (fun p => p.2 != .cell && (p.2 != .local || scope.names.lookup p.1 == some .local)) &&
  scope.kind == .function && sc.kind == .function

theorem mem_rel {scope sc : Scope} {x : Str} (h : (rel scope sc).names.lookup x = some .cell) : ∃ k, (x, k) ∈ scope.names ∧ (k = .cell ∨ k = .free) := by
  unfold rel at h
  simp only at h
  generalize scope.names = l at h ⊢
  induction l with
  | nil => simp at h
  | cons p r ih =>
    obtain ⟨y, k⟩ := p
    simp only [List.map_cons] at h
    by_cases hc : (k == .free && sc.kind == .function && sc.names.lookup y == some .cell) = true
    · rw [if_pos hc] at h
      simp only [List.lookup_cons] at h
      by_cases q : x == y
      · refine ⟨k, by rw [eq_of_beq q]; exact List.mem_cons_self, .inr ?_⟩
        simp only [Bool.and_eq_true, beq_iff_eq] at hc
        exact hc.1.1
      · simp only [q] at h
        obtain ⟨k', h1, h2⟩ := ih h
        exact ⟨k', List.mem_cons_of_mem _ h1, h2⟩
    · rw [if_neg hc] at h
      simp only [List.lookup_cons] at h
      by_cases q : x == y
      · simp only [q] at h
        cases h
        exact ⟨_, by rw [eq_of_beq q]; exact List.mem_cons_self, .inl rfl⟩
      · simp only [q] at h
        obtain ⟨k', h1, h2⟩ := ih h
        exact ⟨k', List.mem_cons_of_mem _ h1, h2⟩

theorem Ev.comp {elt tgt iter : Expr} {ifs : List Expr} {scope : Scope} {pos : Pos} {P : AV → List Cell → Prop} (lm₀ : Lm) (hcn : compNames scope sc lm₀ = true) (hinc : Inc lm₀ lm)
    (h : EvI g n sc tgt iter lm μ fun items need μ₁ => items.length ≤ sizeLine ∧ ∃ I : Nat → List AV → List Cell → Prop, I 0 [] μ₁ ∧ (∀ i l μ', I i l μ' → need μ') ∧
      (∀ i a l μ', items[i]? = some a → I i l μ' → Asg g n (rel scope sc) false tgt a lm₀ μ' fun lm'' μ'' => Inc lm₀ lm'' ∧ IfsV g n (rel scope sc) ifs lm'' μ'' fun ok μ₃ =>
        (ok = false → I (i + 1) l μ₃) ∧ (ok = true → Ev g n (rel scope sc) elt lm'' μ₃ fun b μ₄ => I (i + 1) (l ++ [b]) μ₄)) ∧
      (∀ l μ', I items.length l μ' → P (.lst l) μ'))
    (hs : ∀ env x, foldedSetIterable iter env x = pure x := by intro _ _; rfl) : Ev g n sc (.ListComp elt [⟨tgt, iter, ifs, 0⟩] scope pos) lm μ P := by
  simp only [compNames, Bool.and_eq_true] at hcn
  obtain ⟨⟨⟨⟨hc1, hc2⟩, hc3⟩, hc4⟩, hc5⟩ := hcn
  replace hc1 := eq_of_beq hc1
  replace hc4 : scope.kind = .function := eq_of_beq hc4
  have hc5 : sc.kind = .function := eq_of_beq hc5
  have hnames : ∀ p ∈ scope.names, p.2 ≠ .cell ∧ (p.2 = .local → scope.names.lookup p.1 = some .local) := fun p hp => by
    have := List.all_eq_true.mp hc3 p hp
    simp only [Bool.and_eq_true, bne_iff_ne, ne_eq, Bool.or_eq_true, beq_iff_eq] at this
    exact ⟨this.1, fun q => this.2.elim (fun z => absurd q z) id⟩
  have hfree : ∀ p ∈ scope.names, p.2 = .free → ∃ x a, p.1 = Str.ofString x ∧ (x, a) ∈ lm₀ := fun p hp hf => by
    have : p.1 ∈ lm₀.map (fun p => Str.ofString p.1) := by
      rw [← hc1]
      exact List.mem_map.mpr ⟨p, List.mem_filter.mpr ⟨hp, by simp [hf]⟩, rfl⟩
    obtain ⟨q, hq, e⟩ := List.mem_map.mp this
    exact ⟨q.1, q.2, e.symm, hq⟩
  have hl₀ : ∀ p ∈ lm₀, sc.names.lookup (Str.ofString p.1) = some .cell ∧ (rel scope sc).names.lookup (Str.ofString p.1) = some .cell := fun p hp => by
    have := List.all_eq_true.mp hc2 p hp
    simpa using this
  intro A env H ρ s E hA Oe B F
  rw [eval_ListComp]
  obtain ⟨cl, hcl, hclm, hclf, hcln⟩ := closure_ok scope env (fun p hp hf => by
    obtain ⟨x, a, e, hm⟩ := hfree p hp hf
    obtain ⟨c, _, h1, _⟩ := F.cells x (by show env.scope.names.lookup _ = _; rw [Oe.scope]; exact (hl₀ _ hm).1)
    exact ⟨c, by rw [e]; exact h1⟩)
  refine wpAny_comprehension_free (use := none) rfl (hs env) hcl hc4 (fun p hp hq => (hnames p hp).2 hq) (wpAny_mono (h A env H ρ s E hA Oe B F) (fun x s₁ h₁ => wpAny_mono h₁ ?_ fun _ _ x => x) fun _ _ x => x)
  intro it s₂ hh
  refine Classical.byContradiction fun hcon => ?_
  obtain ⟨items, need, μ₂, ρ₂, O, St, ⟨hsz, I, hI0, hneed, hturn, hend⟩, _, T, B₂, hSt, hO, x₂⟩ := hh
  refine hcon ?_
  clear hcon
  have F₂ := F.into Oe B x₂ hO
  refine wpAny_newObj_type (wpAny_newFunctionEnv (fun p hp => (hnames p hp).1) (by intro y hy; simp at hy) (fun h₁ hns₁ hsb₁ => ?_) hc4)
  dsimp only at hns₁ hsb₁ ⊢
  generalize hH2 : s₂.heap.push { cls := .type "list", dict := none, data := .seq ([] : List Value).toArray } = H2 at hns₁ hsb₁ ⊢
  have hC : H2.objs.size = s₂.heap.objs.size + 1 := by rw [← hH2, Heap.size_push]
  have hDC : s₂.heap.objs.size ≠ H2.objs.size := by rw [hC]; exact Nat.ne_of_lt (Nat.lt_succ_self _)
  have below : ∀ b, b < s₂.heap.objs.size → b ≠ H2.objs.size ∧ b ≠ s₂.heap.objs.size := fun b hb => ⟨by rw [hC]; exact Nat.ne_of_lt (Nat.lt_succ_of_lt hb), Nat.ne_of_lt hb⟩
  have old : ∀ b o, s₂.heap.get? b = some o → h₁.get? b = some o := fun b o e => hsb₁.extBut b o (below b (Heap.lt_size e)).1 (Heap.get?_push_of_some _ (hH2 ▸ Heap.get?_push_of_some _ e))
  have hacc : h₁.PlainList s₂.heap.objs.size #[] := ⟨_, hsb₁.extBut _ _ hDC (Heap.get?_push_of_some _ (hH2 ▸ Heap.get?_push_size _ rfl))⟩
  have fresh : ∀ a, s₂.heap.objs.size ≤ a → s₂.heap.get? a = none := fun a ha => by
    cases e : s₂.heap.get? a with
    | none => rfl
    | some o' => exact absurd (Heap.lt_size e) (Nat.not_lt.mpr ha)
  generalize hDd : s₂.heap.objs.size = D at *
  generalize hCd : H2.objs.size = C at *
  have hDn : s₂.heap.get? D = none := fresh D (Nat.le_refl _)
  have hCn : s₂.heap.get? C = none := fresh C (by rw [hC]; exact Nat.le_succ _)
  have hns0 : h₁.Ns C (fun _ => none) := hns₁
  let s₃ : Shared := { s₂ with heap := h₁, toks := s₂.toks + ([] : List (Str × Value)).length }
  have hD₁ : ∃ o, h₁.get? D = some o := by obtain ⟨n', e⟩ := hacc; exact ⟨_, e⟩
  obtain ⟨B₃, hv₃⟩ := B₂.enter (O := [D, C]) (s' := s₃) old (fun a ha => by
    rcases List.mem_cons.mp ha with rfl | ha
    · exact hDn
    · rw [List.mem_singleton.mp ha]; exact hCn) (fun a ha => by
    rcases List.mem_cons.mp ha with rfl | ha
    · exact hD₁
    · rw [List.mem_singleton.mp ha]; exact ns_there hns0)
  let HH : List Addr := [D, C] ++ (O ++ H)
  have hO₃ : ∀ a ∈ O, ∃ o, s₂.heap.get? a = some o := fun a ha => B₂.lt a (List.mem_append_left _ ha)
  have hOD : ∀ a ∈ O, a ≠ D ∧ a ≠ C := fun a ha => by
    obtain ⟨o, e⟩ := hO₃ a ha
    exact ⟨fun q => (by rw [q, hDn] at e; cases e), fun q => (by rw [q, hCn] at e; cases e)⟩
  have hSt₃ : St 0 HH ρ₂ s₃ := T.frame 0 _ _ ρ₂ ρ₂ s₂ s₃ hSt (fun a _ o e => old a o e) hv₃ (Sub.refl _)
  let cenv : Env := compEnvC scope cl C env
  have hcs : cenv.scope = rel scope sc := by show relabel scope env = _; rw [relabel_eq, Oe.scope]
  have hDH : D ∈ HH := List.mem_cons_self
  have hCH : C ∈ HH := List.mem_cons_of_mem _ List.mem_cons_self
  have hOH : ∀ a ∈ O, a ∈ HH := fun a ha => List.mem_append_right _ (List.mem_append_left _ ha)
  have hclk : ∀ p ∈ cl, env.kindOf p.1 = some .cell := fun p hp => by
    obtain ⟨x, a, e, hm⟩ := hfree _ (hcln p hp) rfl
    show env.scope.names.lookup _ = _
    rw [Oe.scope]
    have e' : p.1 = Str.ofString x := e
    rw [e']; exact (hl₀ _ hm).1
  have hclHH : ∀ p ∈ cl, p.2 ∈ H := fun p hp => Oe.cells _ (ocells_in (PySem.mem_of_lookup (hclm p hp)) (hclk p hp))
  have hHex : ∀ a ∈ H, ∃ o, s₂.heap.get? a = some o := fun a ha => B₂.lt a (List.mem_append_right _ ha)
  have hown : OwnOk cenv := by
    refine ⟨fun q => ?_, fun x y c kx ky hx hy => ?_⟩
    · obtain ⟨y, hp, _⟩ := ocells_of q
      obtain ⟨o, eo⟩ := hHex _ (hclHH _ hp)
      have eo' : s₂.heap.get? C = some o := eo
      rw [hCn] at eo'; cases eo'
    · exact Oe.ok.2 x y c (hclk _ (PySem.mem_of_lookup hx)) (hclk _ (PySem.mem_of_lookup hy)) (hclm _ (PySem.mem_of_lookup hx)) (hclm _ (PySem.mem_of_lookup hy))
  have Oc : EnvOk (rel scope sc) cenv HH := ⟨hcs, hc4, Oe.glob, Oe.blt, hCH, fun a ha => by
    obtain ⟨y, hp, _⟩ := ocells_of ha
    exact List.mem_append_right _ (List.mem_append_right _ (hclHH _ hp)), hown⟩
  have F₃ : FrameAt cenv lm₀ HH ρ₂ h₁ := by
    refine ⟨⟨_, hns0, fun x hx => ?_⟩, fun x hx => ?_⟩
    · have hx' : (rel scope sc).names.lookup (Str.ofString x) = some .local := by rw [← hcs]; exact hx
      cases e : lm₀.lookup x with
      | none => trivial
      | some a =>
        have := (hl₀ _ (mem_of_lookupS e)).2
        rw [hx'] at this; cases this
    · have hx' : (rel scope sc).names.lookup (Str.ofString x) = some .cell := by rw [← hcs]; exact hx
      obtain ⟨k, hm, hk⟩ := mem_rel hx'
      have hkf : k = .free := hk.elim (fun q => absurd q (hnames _ hm).1) id
      obtain ⟨c', hc'⟩ := hclf _ hm hkf
      obtain ⟨c, hc⟩ := lookup_of_memS hc'
      have hce := hclm _ (PySem.mem_of_lookup hc)
      obtain ⟨y, a, ey, hy⟩ := hfree _ hm hkf
      have hxk : env.kindOf (Str.ofString x) = some .cell := by
        show env.scope.names.lookup _ = _
        rw [Oe.scope]
        have e2 : Str.ofString x = Str.ofString y := ey
        rw [e2]; exact (hl₀ _ hy).1
      obtain ⟨c₁, v₁, h1, ⟨o, ho, hd⟩, h3⟩ := F₂.cells x hxk
      have : c₁ = c := by
        have h1' : env.cells.lookup (Str.ofString x) = some c₁ := h1
        have h2' : env.cells.lookup (Str.ofString x) = some c := hce
        rw [h1'] at h2'; exact Option.some.inj h2'
      subst this
      refine ⟨c₁, v₁, hc, ⟨o, old _ o ho, hd⟩, ?_⟩
      cases e : lm₀.lookup x with
      | none => trivial
      | some b =>
        rw [hinc.look _ _ e] at h3
        exact h3.mono hv₃ (Sub.refl _)
  have hWH : ∀ a ∈ D :: C :: O, a ∈ HH := fun a ha => by
    rcases List.mem_cons.mp ha with rfl | ha
    · exact hDH
    rcases List.mem_cons.mp ha with rfl | ha
    · exact hCH
    · exact hOH a ha
  have thr : ∀ b, (∃ o, s.heap.get? b = some o) → ∃ o, s₂.heap.get? b = some o := fun b ⟨o, e⟩ => by
    by_cases q : b ∈ ρ
    · obtain ⟨i, hi⟩ := List.mem_iff_getElem?.mp q
      exact B₂.thereρ (List.mem_of_getElem? (x₂.pre _ _ hi))
    · exact ⟨o, (x₂.keep b o (fun q => nomatch q) q e).1⟩
  have nn : ∀ a ∈ D :: C :: O, s.heap.get? a = none := fun a ha => by
    cases e : s.heap.get? a with
    | none => rfl
    | some o =>
      rcases List.mem_cons.mp ha with rfl | ha
      · obtain ⟨o', e'⟩ := thr _ ⟨o, e⟩
        rw [hDn] at e'; cases e'
      rcases List.mem_cons.mp ha with rfl | ha
      · obtain ⟨o', e'⟩ := thr _ ⟨o, e⟩
        rw [hCn] at e'; cases e'
      · rw [hO a ha] at e; cases e
  have hnH : ∀ a ∈ D :: C :: O, a ∉ H := fun a ha q => by
    obtain ⟨o, e⟩ := B.lt a q
    rw [nn a ha] at e; cases e
  have hCO : C ∉ O := fun q => (hOD C q).2 rfl
  have hDO : D ∉ O := fun q => (hOD D q).1 rfl
  have hclO : ∀ (W : List Addr), (∀ a ∈ W, a ∈ D :: C :: O) → ∀ a ∈ ocells cenv, a ∉ W := fun W hW a ha q => by
    obtain ⟨y, hp, _⟩ := ocells_of ha
    exact hnH _ (hW _ q) (hclHH _ hp)
  have loop : codeAny (model g.prog g.w) A (.compLoop (.ListComp elt [⟨tgt, iter, ifs, 0⟩] scope pos) 0 it (.ref D) cenv) (compPost (model g.prog g.w) A E none (Post g H [] ρ s P) (.ref D) C) s₃ := by
    refine codeAny_compLoop_any (fun k s' => ∃ i lm' μ' ρ' l its, i ≤ items.length ∧ l.length ≤ i ∧ k = items.length + 1 - i ∧ I i l μ' ∧ Base g HH μ' ρ' s' ∧ (∀ x a, lm₀.lookup x = some a → lm'.lookup x = some a) ∧ FrameAt cenv lm' HH ρ' s'.heap ∧ St i HH ρ' s' ∧ Ext (D :: C :: O) ρ₂ ρ' s₃ s' ∧
        s'.heap.PlainList D its ∧ RVs (Vis HH ρ' s'.heap) ρ' l its.toList) ?_ (items.length + 1)
      ⟨0, lm₀, μ₂, ρ₂, [], #[], Nat.zero_le _, Nat.le_refl _, rfl, hI0, B₃, fun _ _ e => e, F₃, hSt₃, Ext.refl _ _ _, hacc, .nil⟩
    intro k s₄ hh
    refine Classical.byContradiction fun hcon => ?_
    obtain ⟨i, lm₄, μ₄, ρ₄, l, its, hi, hli, rfl, hI, B₄, hlk, F₄, hSt₄, x₄, hpl, hrv⟩ := hh
    refine hcon ?_
    clear hcon
    refine wpAny_mono (T.next A HH ρ₄ s₄ μ₄ i _ hA B₄ (hneed _ _ _ hI) hOH hSt₄) ?_ fun _ _ x => x
    intro r s₅ hr
    cases r with
    | none =>
      obtain ⟨hle, hk₅, hg₅, ho₅⟩ := hr
      have : i = items.length := by omega
      subst this
      obtain ⟨m, ⟨om, esm, epm, hom, hrm⟩, _⟩ := F₄.ns
      refine ⟨m, ⟨om, esm, epm, hk₅ _ _ hCO hom, hrm⟩, fun h' hs' => ?_⟩
      have hk : ∀ b o, b ∉ D :: C :: O → s₄.heap.get? b = some o → h'.get? b = some o := fun b o hb e => (hs'.2 b fun q => hb (by rw [q]; exact List.mem_cons_of_mem _ List.mem_cons_self)).trans
        (hk₅ b o (fun q => hb (List.mem_cons_of_mem _ (List.mem_cons_of_mem _ q))) e)
      obtain ⟨B₆, hv₆⟩ := Base.lose (H := H) (O := D :: C :: O) (s' := { s₅ with heap := h' }) B₄ hnH hk
      obtain ⟨n', hpD⟩ := hpl
      have hpD6 : h'.get? D = some { cls := .type "list", data := .seq its n' } := (hs'.2 D hDC).trans (hk₅ D _ hDO hpD)
      refine ⟨.lst l, μ₄, ρ₄, hend l μ₄ hI, B₆, ?_, ?_⟩
      · refine ⟨x₂.pre.trans x₄.pre, fun b o _ hb e => ?_, (fun _ q => nomatch q), hg₅.trans (x₄.gens.trans x₂.gens), ho₅.trans (x₄.os.trans x₂.os)⟩
        have hbn : b ∉ D :: C :: O := fun q => by rw [nn b q] at e; cases e
        have z := x₂.keep b o (fun q => nomatch q) hb e
        have z' := x₄.keep b o hbn z.2 (old b o z.1)
        exact ⟨hk b o hbn z'.1, z'.2⟩
      · exact .lst ⟨hpD6, hnH D List.mem_cons_self, B₄.disH hDH⟩ (hrv.mono hv₆ (Sub.refl _))
    | some v =>
      refine wpAny_mono hr ?_ fun _ _ x => x
      intro v' s₅ hh
      refine Classical.byContradiction fun hcon => ?_
      obtain ⟨a, ha, B₅, x₅, r₅, hSt₅⟩ := hh
      refine hcon ?_
      clear hcon
      have hlt : i < items.length := by
        rcases Nat.lt_or_ge i items.length with q | q
        · exact q
        · rw [List.getElem?_eq_none q] at ha; cases ha
      have F₅ := (F₄.ext B₄ Oc x₅ hOH hCO (hclO O fun a ha => List.mem_cons_of_mem _ (List.mem_cons_of_mem _ ha))).weaken hlk
      refine wpAny_mono (hturn i a l μ₄ ha hI A cenv HH ρ₄ s₅ v _ hA Oc hown B₅ F₅ r₅) ?_ fun _ _ x => x
      intro _ s₆ hh
      refine Classical.byContradiction fun hcon => ?_
      obtain ⟨lm₆, μ₆, ρ₆, ⟨hinc₆, h₆⟩, B₆, F₆, x₆⟩ := hh
      refine hcon ?_
      clear hcon
      replace x₆ : Ext [C] ρ₄ ρ₆ s₅ s₆ := x₆
      refine wpAny_mono (h₆ A cenv HH ρ₆ s₆ _ hA Oc B₆ F₆) ?_ fun _ _ x => x
      intro ok s₇ hh
      refine Classical.byContradiction fun hcon => ?_
      obtain ⟨μ₇, ρ₇, ⟨hf, ht⟩, B₇, x₇⟩ := hh
      refine hcon ?_
      clear hcon
      have hW1 : ∀ a ∈ [C], a ∈ HH := fun a ha => by rw [List.mem_singleton.mp ha]; exact hCH
      have hCin : ∀ a ∈ [C], a ∈ D :: C :: O := fun a ha => by rw [List.mem_singleton.mp ha]; exact List.mem_cons_of_mem _ List.mem_cons_self
      have x57 : Ext [C] ρ₄ ρ₇ s₅ s₇ := x₆.trans (x₇.grow B₆ (fun _ q => nomatch q) hW1)
      have x47 := (x₄.trans (x₅.grow B₄ (fun a ha => List.mem_cons_of_mem _ (List.mem_cons_of_mem _ ha)) hWH)).trans (x57.grow B₅ hCin hWH)
      have F₇ := F₆.ext0 B₆ Oc x₇
      have hOC : ∀ a ∈ O, a ∉ [C] := fun a ha q => (hOD a ha).2 (List.mem_singleton.mp q)
      obtain ⟨n', hpD⟩ := hpl
      have hpD5 := (x₅.keep D _ hDO (B₄.disH hDH) hpD).1
      have hDC1 : D ∉ [C] := fun q => hDC (List.mem_singleton.mp q)
      have hpD7 := (x57.keep D _ hDC1 (B₅.disH hDH) hpD5).1
      have hrv7 := (hrv.mono (x₅.vis hOH) x₅.pre).mono (x57.vis hW1) x57.pre
      have hSt₇ : St (i + 1) HH ρ₇ s₇ := T.frame (i + 1) _ _ ρ₄ ρ₇ s₅ s₇ hSt₅ (fun a ha o e => (x57.keep a o (hOC a ha) (B₅.disH (hOH a ha)) e).1) (x57.vis hW1) x57.pre
      cases ok with
      | false =>
        refine ⟨fun q => (nomatch q), fun _ => ⟨items.length + 1 - (i + 1), by omega, i + 1, lm₆, μ₇, ρ₇, l, its, hlt, Nat.le_succ_of_le hli, rfl, hf rfl, B₇, hinc₆.look, F₇, hSt₇, x47, ⟨n', hpD7⟩, hrv7⟩⟩
      | true =>
        refine ⟨fun _ => ?_, fun q => (nomatch q)⟩
        refine wpAny_mono (ht rfl A cenv HH ρ₇ s₇ _ hA Oc B₇ F₇) ?_ fun _ _ x => x
        intro vb s₈ hh
        refine Classical.byContradiction fun hcon => ?_
        obtain ⟨b, μ₈, ρ₈, hI₈, B₈, x₈, r₈⟩ := hh
        refine hcon ?_
        clear hcon
        have hpD8 := (x₈.keep D _ (fun q => nomatch q) (B₇.disH hDH) hpD7).1
        have hsz' : its.size ≤ sizeLine := by
          have := hrv.length
          simp at this
          omega
        refine wpAny_list_append_plain (hsz := hsz') ⟨n', hpD8⟩ fun h₉ hl₉ hs₉ => ?_
        have hth : ∃ o, h₉.get? D = some o := by obtain ⟨n'', e⟩ := hl₉; exact ⟨_, e⟩
        have B₉ : Base g HH μ₈ ρ₈ { s₈ with heap := h₉ } := B₈.sub1 hDH hs₉ hth
        have x₉ : Ext [D] ρ₈ ρ₈ s₈ { s₈ with heap := h₉ } := Ext.sub1 List.mem_cons_self hs₉ hth
        have hWD : ∀ a ∈ [D], a ∈ HH := fun a ha => by rw [List.mem_singleton.mp ha]; exact hDH
        have hDin : ∀ a ∈ [D], a ∈ D :: C :: O := fun a ha => by rw [List.mem_singleton.mp ha]; exact List.mem_cons_self
        have F₉ := (F₇.ext0 B₇ Oc x₈).ext B₈ Oc x₉ hWD (fun q => hDC (List.mem_singleton.mp q).symm) (hclO [D] hDin)
        have hSt₈ : St (i + 1) HH ρ₈ s₈ := T.frame (i + 1) _ _ ρ₇ ρ₈ s₇ s₈ hSt₇ (fun a ha o e => (x₈.keep a o (fun q => nomatch q) (B₇.disH (hOH a ha)) e).1) (x₈.vis fun _ q => nomatch q) x₈.pre
        have hSt₉ : St (i + 1) HH ρ₈ { s₈ with heap := h₉ } := T.frame (i + 1) _ _ ρ₈ ρ₈ s₈ _ hSt₈ (fun a ha o e => (x₉.keep a o (fun q => (hOD a ha).1 (List.mem_singleton.mp q)) (B₈.disH (hOH a ha)) e).1) (x₉.vis hWD) x₉.pre
        refine ⟨items.length + 1 - (i + 1), by omega, i + 1, lm₆, μ₈, ρ₈, l ++ [b], its.push vb, hlt, by simp; omega, rfl, hI₈, B₉, hinc₆.look, F₉, hSt₉, ?_, hl₉, ?_⟩
        · exact (x47.trans (x₈.grow B₇ (fun _ q => nomatch q) hWH)).trans (x₉.grow B₈ hDin hWH)
        · rw [Array.toList_push]
          exact ((x₈.rvs0 hrv7).mono (x₉.vis hWD) x₉.pre).snoc (x₉.rv hWD r₈)
  exact codeAny_compStart_list loop (T.self A HH ρ₂ s₃ 0 _ _ hA hSt₃ loop)
end
end
section
open PySem PySem.Spec PySem.Calls PyProof.Rows PySem.W

section
variable {prog : Program} {w : World} {A : Around} {E : Value → Shared → Prop} {s : Shared}
theorem lotg {tgt : Expr} {I : Addr} {o : Obj} {nm : String} {vs : Array Value} {v : Value} {Q : Unit → Shared → Prop} (ho : s.heap.get? I = some o) (hc : o.cls = .type nm) (hd : o.data = .fields vs)
    (hn : ["enumerate", "zip", "dict_itemiterator", "dict_reverseitemiterator", "odict_iterator", "itertools.zip_longest", "itertools.pairwise"].contains nm = false) (hQ : Q () s) : wpAny (model prog w) A (letOwnedTupleGo tgt (.ref I) v) Q E s := by
  have key : ∀ a : Addr, wpAny (model prog w) A (do
      let o ← load I
      match o.cls, o.data with
      | .type n, .fields vs =>
        if ["enumerate", "zip", "dict_itemiterator", "dict_reverseitemiterator", "odict_iterator", "itertools.zip_longest", "itertools.pairwise"].contains n && vs[0]? == some (rawInt a) then
          rule "for.unpacks-the-owned-tuple"
          updateField I 0 .none
      | _, _ => pure ()) Q E s := fun a => by
    refine wpAny_bind (wpAny_load ho ?_)
    rw [hc, hd]
    dsimp only
    rw [hn]
    exact wpAny_pure hQ
  unfold letOwnedTupleGo
  split
  · split
    · rename_i heq
      cases heq
      exact key _
    · exact wpAny_pure hQ
  · split
    · rename_i heq
      cases heq
      exact key _
    · exact wpAny_pure hQ
  · exact wpAny_pure hQ
end

section
variable {g : Gd} {n : Nat} {sc : Scope} {lm : Lm} {μ : List Cell} {tgt : Expr}

theorem extBut_in {ρ : List Addr} {s : Shared} {h' : Heap} {tk : Tok} {I : Addr} (hs : Heap.ExtBut I s.heap h') (ht : ∃ o, h'.get? I = some o) : Ext [I] ρ ρ s { s with heap := h', toks := tk } :=
  ⟨Sub.refl _, fun b o h1 h2 e => ⟨hs b o (fun q => h1 (List.mem_singleton.mpr q)) e, h2⟩, fun b hb _ => by rw [List.mem_singleton.mp hb]; exact ht, rfl, rfl⟩
theorem Base.extBut {H ρ : List Addr} {s : Shared} {h' : Heap} {tk : Tok} {I : Addr} (B : Base g H μ ρ s) (hI : I ∈ H) (hs : Heap.ExtBut I s.heap h') (ht : ∃ o, h'.get? I = some o) : Base g H μ ρ { s with heap := h', toks := tk } :=
  B.kp (W := [I]) (fun a ha => by rw [List.mem_singleton.mp ha]; exact hI) (fun b o hb e => hs b o (fun q => hb (List.mem_singleton.mpr q)) e) fun b hb => by rw [List.mem_singleton.mp hb]; exact ht

/-- the iterator over a list that stands still -/
theorem Itr.list {I ax : Addr} {its : Array Value} {m : Nat} {l : List AV} : Itr g n tgt (.ref I) [I] l (fun _ => True) (fun i H ρ s => s.heap.IsListIter I ax i ∧ Vis H ρ s.heap ax { cls := .type "list", data := .seq its m } ∧ RVs (Vis H ρ s.heap) ρ l its.toList) where
  frame := fun i H H' ρ ρ' s s' ⟨h1, h2, h3⟩ hk hv hs => ⟨h1.at fun o e => hk I List.mem_cons_self o e, hv _ _ h2, h3.mono hv hs⟩
  self := fun A H ρ s i E Q hA st hQ => wpAny_pyIter_listiter st.1 hQ
  next := fun A H ρ s μ i E hA B _ hO ⟨h1, h2, h3⟩ => by
    have hl : s.heap.IsList ax its := ⟨_, h2.1, rfl, m, rfl⟩
    have hI : I ∈ H := hO I List.mem_cons_self
    cases hx : its[i]? with
    | none =>
      refine wpAny_pyNext_list_end hA.handled h1 hl hx fun h' he => ?_
      have hle : l.length ≤ i := by
        have := h3.length
        simp at this hx
        omega
      exact ⟨hle, fun b o hb e => he b o (fun q => hb (List.mem_singleton.mpr q)) e, rfl, rfl⟩
    | some v =>
      refine wpAny_pyNext_list_item h1 hl hx fun h' hit hs => ?_
      obtain ⟨o, ho, hc, hd⟩ := id hit
      refine lotg ho hc hd (by decide) ?_
      obtain ⟨a, ha, hr⟩ := h3.get' (i := i) (v := v) (by simpa using hx)
      have hth : ∃ o, h'.get? I = some o := ⟨o, ho⟩
      have x : Ext [I] ρ ρ s { s with heap := h' } := extBut_in hs.extBut hth
      have hW : ∀ a ∈ [I], a ∈ H := fun a ha => by rw [List.mem_singleton.mp ha]; exact hI
      exact ⟨a, ha, B.extBut hI hs.extBut hth, x, x.rv hW hr, hit, x.vis hW _ _ h2, h3.mono (x.vis hW) x.pre⟩

/-- the iterator over a tuple -/
theorem Itr.tup {I ax : Addr} {its : Array Value} {m : Nat} {l : List AV} : Itr g n tgt (.ref I) [I] l (fun _ => True) (fun i H ρ s => s.heap.IsTupleIter I ax i ∧ Vis H ρ s.heap ax { cls := .type "tuple", data := .seq its m } ∧ RVs (Vis H ρ s.heap) ρ l its.toList) where
  frame := fun i H H' ρ ρ' s s' ⟨h1, h2, h3⟩ hk hv hs => ⟨h1.at fun o e => hk I List.mem_cons_self o e, hv _ _ h2, h3.mono hv hs⟩
  self := fun A H ρ s i E Q hA st hQ => wpAny_pyIter_tupleiter st.1 hQ
  next := fun A H ρ s μ i E hA B _ hO ⟨h1, h2, h3⟩ => by
    have hl : s.heap.IsTuple ax its := ⟨_, h2.1, rfl, m, rfl⟩
    have hI : I ∈ H := hO I List.mem_cons_self
    cases hx : its[i]? with
    | none =>
      refine wpAny_pyNext_tuple_end hA.handled h1 hl hx fun h' he => ?_
      have hle : l.length ≤ i := by
        have := h3.length
        simp at this hx
        omega
      exact ⟨hle, fun b o hb e => he b o (fun q => hb (List.mem_singleton.mpr q)) e, rfl, rfl⟩
    | some v =>
      refine wpAny_pyNext_tuple_item h1 hl hx fun h' hit hs => ?_
      obtain ⟨o, ho, hc, hd⟩ := id hit
      refine lotg ho hc hd (by decide) ?_
      obtain ⟨a, ha, hr⟩ := h3.get' (i := i) (v := v) (by simpa using hx)
      have hth : ∃ o, h'.get? I = some o := ⟨o, ho⟩
      have x : Ext [I] ρ ρ s { s with heap := h' } := extBut_in hs.extBut hth
      have hW : ∀ a ∈ [I], a ∈ H := fun a ha => by rw [List.mem_singleton.mp ha]; exact hI
      exact ⟨a, ha, B.extBut hI hs.extBut hth, x, x.rv hW hr, hit, x.vis hW _ _ h2, h3.mono (x.vis hW) x.pre⟩

noncomputable def intsA (a c : Int) : Nat → List AV
  | 0 => []
  | k + 1 => .int a :: intsA (a + c) c k
theorem intsA_length (a c : Int) : ∀ k, (intsA a c k).length = k
  | 0 => rfl
  | k + 1 => by simp [intsA, intsA_length (a + c) c k]
theorem intsA_get : ∀ (k : Nat) (a c : Int) (i : Nat), i < k → (intsA a c k)[i]? = some (.int (a + i * c))
  | k + 1, a, c, 0, _ => by simp [intsA]
  | k + 1, a, c, i + 1, h => by
    simp only [intsA, List.getElem?_cons_succ]
    rw [intsA_get k (a + c) c i (by omega)]
    congr 2
    push_cast
    rw [Int.add_mul]; omega

theorem Itr.range {I : Addr} {a c : Int} {k : Nat} : Itr g n tgt (.ref I) [I] (intsA a c k) (fun _ => True) (fun i _ _ s => i ≤ k ∧ IsRangeIter s.heap I (a + (i : Nat) * c) ((k : Int) - (i : Nat)) c) where
  frame := fun i H H' ρ ρ' s s' ⟨h0, h1⟩ hk hv hs => ⟨h0, hk I List.mem_cons_self _ h1⟩
  self := fun A H ρ s i E Q hA st hQ => wpAny_pyIter_rangeiter st.2 hQ
  next := fun A H ρ s μ i E hA B _ hO ⟨h0, h1⟩ => by
    have hI : I ∈ H := hO I List.mem_cons_self
    by_cases hlt : i < k
    · refine wpAny_pyNext_range_item h1 (by omega) fun h' hit hs => ?_
      refine lotg hit rfl rfl (by decide) ?_
      have hth : ∃ o, h'.get? I = some o := ⟨_, hit⟩
      have x : Ext [I] ρ ρ s { s with heap := h', toks := s.toks + 1 } := extBut_in hs.extBut hth
      refine ⟨.int (a + i * c), intsA_get k a c i hlt, B.extBut hI hs.extBut hth, x, .int _ _, hlt, ?_⟩
      have e1 : a + ((i + 1 : Nat) : Int) * c = a + (i : Int) * c + c := by push_cast; rw [Int.add_mul]; omega
      have e2 : (k : Int) - ((i + 1 : Nat) : Int) = (k : Int) - (i : Int) - 1 := by push_cast; omega
      rw [e1, e2]; exact hit
    · refine wpAny_pyNext_range_end hA.handled h1 (by omega) fun h' he => ?_
      exact ⟨by rw [intsA_length]; omega, fun b o hb e => he b o (fun q => hb (List.mem_singleton.mpr q)) e, rfl, rfl⟩

theorem KvAt.length {κ κ' : Type} {R : κ → κ' → Prop} {V : Vw} {ρ : List Addr} : ∀ {l : List (κ × AV)} {l' : List (κ' × Value)}, KvAt R V ρ l l' → l.length = l'.length
  | [], [], _ => rfl
  | (_, _) :: _, (_, _) :: _, ⟨_, _, h3⟩ => by simp [KvAt.length h3]
  | [], _ :: _, h => h.elim
  | _ :: _, [], h => h.elim
theorem KvAt.get {κ κ' : Type} {R : κ → κ' → Prop} {V : Vw} {ρ : List Addr} : ∀ {l : List (κ × AV)} {l' : List (κ' × Value)}, KvAt R V ρ l l' → ∀ {i : Nat} {k' : κ'} {v : Value}, l'[i]? = some (k', v) → ∃ k a, l[i]? = some (k, a) ∧ R k k' ∧ RV V ρ a v
  | [], [], _, i, k', v, h => by simp at h
  | (k, a) :: _, (_, _) :: _, ⟨h1, h2, h3⟩, 0, k', v, h => by simp at h; obtain ⟨rfl, rfl⟩ := h; exact ⟨k, a, by simp, h1, h2⟩
  | (_, _) :: _, (_, _) :: _, ⟨_, _, h3⟩, i + 1, k', v, h => by
    obtain ⟨k, a, h1, h2⟩ := KvAt.get h3 (i := i) (k' := k') (v := v) (by simpa using h)
    exact ⟨k, a, by simpa using h1, h2⟩
  | [], _ :: _, h, _, _, _, _ => h.elim
  | _ :: _, [], h, _, _, _, _ => h.elim

/-- the iterator over the keys of a dict that stands as it is -/
theorem Itr.dict {I : Addr} {j : Nat} {kvs : List (Int × AV)} {ep : Nat} : Itr g n tgt (.ref I) [I] (kvs.map fun p => .int p.1) (fun μ => μ[j]? = some (.dI kvs ep)) (fun i _ ρ s => ∃ d, ρ[j]? = some d ∧ s.heap.IsKeyIter I d i kvs.length ep) where
  frame := fun i H H' ρ ρ' s s' ⟨d, h0, h1⟩ hk hv hs => ⟨d, hs _ _ h0, h1.at fun o e => hk I List.mem_cons_self o e⟩
  self := fun A H ρ s i E Q hA ⟨d, h0, h1⟩ hQ => wpAny_pyIter_keyiter h1 hQ
  next := fun A H ρ s μ i E hA B hneed hO ⟨d, h0, h1⟩ => by
    have hI : I ∈ H := hO I List.mem_cons_self
    obtain ⟨d', hd', kv', hD, hkv⟩ := B.cellOf hneed
    rw [h0] at hd'; cases hd'
    have hlen := hkv.length
    rw [hlen] at h1
    cases hx : kv'[i]? with
    | none =>
      refine wpAny_pyNext_dict_end hA.handled h1 hD hx fun h' he => ?_
      have hle : (kvs.map fun p => AV.int p.1).length ≤ i := by
        simp at hx ⊢
        omega
      exact ⟨hle, fun b o hb e => he b o (fun q => hb (List.mem_singleton.mpr q)) e, rfl, rfl⟩
    | some kv =>
      obtain ⟨k', v⟩ := kv
      refine wpAny_pyNext_dict_item h1 hD hx fun key h' hkey hit hs => ?_
      obtain ⟨o, ho, hc, hd⟩ := id hit
      refine lotg ho hc hd (by decide) ?_
      obtain ⟨k, a, ha, hkk, hr⟩ := hkv.get hx
      subst hkk
      have hth : ∃ o, h'.get? I = some o := ⟨o, ho⟩
      have x : Ext [I] ρ ρ s { s with heap := h' } := extBut_in hs.extBut hth
      have hrk : RV (Vis H ρ h') ρ (.int k) key := by
        cases key <;> simp [intKind, Value.isInt] at hkey
        subst hkey
        exact .int _ _
      exact ⟨.int k, by simp [ha], B.extBut hI hs.extBut hth, x, hrk, d, h0, by rw [hlen]; exact hit⟩

noncomputable def IPost (g : Gd) (n : Nat) (tgt : Expr) (H ρ : List Addr) (s : Shared) (P : List AV → (List Cell → Prop) → List Cell → Prop) (it : Value) (s₂ : Shared) : Prop :=
  ∃ items need μ' ρ' O St, P items need μ' ∧ need μ' ∧ Itr g n tgt it O items need St ∧ Base g (O ++ H) μ' ρ' s₂ ∧ St 0 (O ++ H) ρ' s₂ ∧ (∀ a ∈ O, s.heap.get? a = none) ∧ Ext [] ρ ρ' s s₂
theorem fresh_back {H ρ ρ₁ : List Addr} {s s₁ : Shared} {μ₁ : List Cell} (x : Ext [] ρ ρ₁ s s₁) (B : Base g H μ₁ ρ₁ s₁) {a : Addr} (h : s₁.heap.get? a = none) : s.heap.get? a = none := by
  cases e : s.heap.get? a with
  | none => rfl
  | some o =>
    by_cases q : a ∈ ρ
    · obtain ⟨i, hi⟩ := List.mem_iff_getElem?.mp q
      obtain ⟨o', e'⟩ := B.thereρ (List.mem_of_getElem? (x.pre _ _ hi))
      rw [h] at e'; cases e'
    · rw [(x.keep a o (fun q => nomatch q) q e).1] at h; cases h
theorem IPost.after {H ρ ρ₁ : List Addr} {s s₁ s₂ : Shared} {μ₁ : List Cell} {P : List AV → (List Cell → Prop) → List Cell → Prop} {it : Value} (x : Ext [] ρ ρ₁ s s₁) (B : Base g H μ₁ ρ₁ s₁) (h : IPost g n tgt H ρ₁ s₁ P it s₂) : IPost g n tgt H ρ s P it s₂ := by
  obtain ⟨items, need, μ', ρ', O, St, p, hn, T, B₂, hS, hO, y⟩ := h
  exact ⟨items, need, μ', ρ', O, St, p, hn, T, B₂, hS, fun a ha => fresh_back x B (hO a ha), x.trans y⟩

noncomputable def IterV (g : Gd) (n : Nat) (tgt : Expr) (a : AV) (μ : List Cell) (P : List AV → (List Cell → Prop) → List Cell → Prop) : Prop :=
  ∀ (A : Around) (H ρ : List Addr) (s : Shared) (va : Value) (E : Value → Shared → Prop), OkA n A → Base g H μ ρ s → RV (Vis H ρ s.heap) ρ a va →
    wpAny (model g.prog g.w) A (pyIter va) (IPost g n tgt H ρ s P) E s
/-- a call whose result is walked over at once -/
noncomputable def CallI (g : Gd) (n : Nat) (tgt : Expr) (f : Value) (args : List AV) (μ : List Cell) (P : List AV → (List Cell → Prop) → List Cell → Prop) : Prop :=
  ∀ (A : Around) (H ρ : List Addr) (s : Shared) (vs : List Value) (E : Value → Shared → Prop), OkA n A → Base g H μ ρ s → RVs (Vis H ρ s.heap) ρ args vs →
    wpAny (model g.prog g.w) A (call f vs) (fun x s₁ => wpAny (model g.prog g.w) A (pyIter x) (IPost g n tgt H ρ s P) E s₁) E s

variable {P : List AV → (List Cell → Prop) → List Cell → Prop}
theorem EvI.of {e : Expr} (h : Ev g n sc e lm μ fun a μ₁ => IterV g n tgt a μ₁ P) : EvI g n sc tgt e lm μ P := by
  intro A env H ρ s E hA O B F
  refine wpAny_mono (h A env H ρ s E hA O B F) ?_ fun _ _ x => x
  rintro v s₁ ⟨a, μ₁, ρ₁, h₁, B₁, x₁, r₁⟩
  exact wpAny_mono (h₁ A H ρ₁ s₁ v E hA B₁ r₁) (fun _ _ z => z.after x₁ B₁) fun _ _ x => x
theorem EvI.call {func e : Expr} {rest : List Expr} {pos : Pos} (h : Ev g n sc func lm μ fun a μ₁ => ∃ f, a = .raw f ∧ Kept g f ∧ Evs g n sc (e :: rest) lm μ₁ fun l μ₂ => CallI g n tgt f l μ₂ P)
    (he : ∀ env, starEach (e :: rest) env = (false, eval e env) :: starEach rest env := by intro _; rfl) (hplain : ∀ env, (backTo pos (starEach rest env)).any (·.1) = false := by intro _; rfl)
    (hev : ∀ env, eval (.Call func (e :: rest) [] pos) env = (do callWith pos (← eval func env) [] (backTo pos (starEach (e :: rest) env)) (backToKw pos (keywordEach [] env))) := by intro _; rfl) : EvI g n sc tgt (.Call func (e :: rest) [] pos) lm μ P := by
  intro A env H ρ s E hA O B F
  refine Call_ (wpAny_mono (h A env H ρ s E hA O B F) ?_ fun _ _ x => x) (hev env)
  rintro v s₁ ⟨a, μ₁, ρ₁, ⟨f, rfl, k, hc⟩, B₁, x₁, r₁⟩
  cases r₁
  refine callWith_any k (wpAny_mono (hc A env H ρ₁ s₁ pos E hA O B₁ (F.ext0 B O x₁)) ?_ fun _ _ x => x) (he env) (hplain env)
  rintro vs s₂ ⟨l, μ₂, ρ₂, h₂, B₂, x₂, r₂⟩
  exact ⟨B₂.K, wpAny_mono (h₂ A H ρ₂ s₂ vs E hA B₂ r₂) (fun _ _ z => wpAny_mono z (fun _ _ z => z.after (x₁.trans x₂) B₂) fun _ _ x => x) fun _ _ x => x⟩

theorem push_none (h : Heap) : h.get? h.objs.size = none := by
  cases e : h.get? h.objs.size with
  | none => rfl
  | some o => exact absurd (Heap.lt_size e) (Nat.lt_irrefl _)
theorem push_keep (h : Heap) (o : Obj) : ∀ b o', h.get? b = some o' → (h.push o).get? b = some o' := fun _ _ e => Heap.get?_push_of_some o e

theorem IterV.lst {l : List AV} (p : P l (fun _ => True) μ) : IterV g n tgt (.lst l) μ P := by
  intro A H ρ s va E hA B r
  cases r with
  | @lst _ a its m ho hs =>
  refine wpAny_pyIter_list ⟨_, ho.1, rfl, _, rfl⟩ ?_
  have hk := push_keep s.heap { cls := .type "list_iterator", data := .fields #[.ref a, .int 0 0] }
  obtain ⟨B', hv⟩ := B.enter (O := [s.heap.objs.size]) (s' := { s with heap := s.heap.push { cls := .type "list_iterator", data := .fields #[.ref a, .int 0 0] } }) hk (fun b hb => by rw [List.mem_singleton.mp hb]; exact push_none _) (fun b hb => by rw [List.mem_singleton.mp hb]; exact ⟨_, Heap.get?_push_size _ rfl⟩)
  exact ⟨l, _, μ, ρ, [s.heap.objs.size], _, p, trivial, Itr.list (its := its) (m := m), B', ⟨⟨_, Heap.get?_push_size _ rfl, rfl, rfl⟩, hv _ _ ho, hs.mono hv (Sub.refl _)⟩, fun b hb => by rw [List.mem_singleton.mp hb]; exact push_none _, Ext.keeps hk rfl rfl⟩
theorem IterV.tup {l : List AV} (p : P l (fun _ => True) μ) : IterV g n tgt (.tup l) μ P := by
  intro A H ρ s va E hA B r
  cases r with
  | @tup _ a its m ho hs =>
  refine wpAny_pyIter_tuple ⟨_, ho.1, rfl, _, rfl⟩ ?_
  have hk := push_keep s.heap { cls := .type "tuple_iterator", data := .fields #[.ref a, .int 0 0] }
  obtain ⟨B', hv⟩ := B.enter (O := [s.heap.objs.size]) (s' := { s with heap := s.heap.push { cls := .type "tuple_iterator", data := .fields #[.ref a, .int 0 0] } }) hk (fun b hb => by rw [List.mem_singleton.mp hb]; exact push_none _) (fun b hb => by rw [List.mem_singleton.mp hb]; exact ⟨_, Heap.get?_push_size _ rfl⟩)
  exact ⟨l, _, μ, ρ, [s.heap.objs.size], _, p, trivial, Itr.tup (its := its) (m := m), B', ⟨⟨_, Heap.get?_push_size _ rfl, rfl, rfl⟩, hv _ _ ho, hs.mono hv (Sub.refl _)⟩, fun b hb => by rw [List.mem_singleton.mp hb]; exact push_none _, Ext.keeps hk rfl rfl⟩
theorem IterV.dict {j : Nat} {kvs : List (Int × AV)} {ep : Nat} (hj : μ[j]? = some (.dI kvs ep)) (p : P (kvs.map fun q => .int q.1) (fun μ => μ[j]? = some (.dI kvs ep)) μ) : IterV g n tgt (.loc j) μ P := by
  intro A H ρ s va E hA B r
  cases r with
  | @loc _ a ha =>
  obtain ⟨d', hd', kv', hD, hkv⟩ := B.cellOf hj
  rw [ha] at hd'; cases hd'
  refine wpAny_pyIter_dict (B.sys a (List.mem_of_getElem? ha)) hD ?_
  have hk := push_keep s.heap { cls := .type "dict_keyiterator", data := .fields #[.ref a, .int 0 0, .int kv'.length 0, .int ep 0] }
  obtain ⟨B', hv⟩ := B.enter (O := [s.heap.objs.size]) (s' := { s with heap := s.heap.push { cls := .type "dict_keyiterator", data := .fields #[.ref a, .int 0 0, .int kv'.length 0, .int ep 0] } }) hk (fun b hb => by rw [List.mem_singleton.mp hb]; exact push_none _) (fun b hb => by rw [List.mem_singleton.mp hb]; exact ⟨_, Heap.get?_push_size _ rfl⟩)
  exact ⟨_, _, μ, ρ, [s.heap.objs.size], _, p, hj, Itr.dict, B', ⟨a, ha, ⟨_, Heap.get?_push_size _ rfl, rfl, by rw [hkv.length]; rfl⟩⟩, fun b hb => by rw [List.mem_singleton.mp hb]; exact push_none _, Ext.keeps hk rfl rfl⟩
theorem CallI.range {k : Int} (h0 : 0 ≤ k) (h1 : k < 1000000) (p : P (intsA 0 1 k.toNat) (fun _ => True) μ) : CallI g n tgt (.type "range") [.int k] μ P := by
  intro A H ρ s vs E hA B r
  cases r with
  | cons hr r =>
  cases r
  cases hr
  refine call_range_1 ?_
  refine wpAny_pyIter_range (IsRange.new ..) (small_one (by decide) (by decide) (by omega) (by omega)) ?_
  rename_i t
  generalize hs1 : s.heap.push _ = h1
  have hk1 : ∀ b o, s.heap.get? b = some o → h1.get? b = some o := fun b o e => by rw [← hs1]; exact Heap.get?_push_of_some _ e
  let o2 : Obj := { cls := .type "range_iterator", data := .fields #[rawInt 0, rawInt (Builtin.Range.rangeSize 0 k 1), rawInt 1] }
  have hn1 : s.heap.get? h1.objs.size = none := by
    cases e : s.heap.get? h1.objs.size with
    | none => rfl
    | some o => exact absurd (Heap.lt_size (hk1 _ _ e)) (Nat.lt_irrefl _)
  have hk : ∀ b o, s.heap.get? b = some o → (h1.push o2).get? b = some o := fun b o e => Heap.get?_push_of_some _ (hk1 b o e)
  obtain ⟨B', hv⟩ := B.enter (O := [h1.objs.size]) (s' := { s with heap := h1.push o2, toks := s.toks + 1 + 1 }) hk (fun b hb => by rw [List.mem_singleton.mp hb]; exact hn1) (fun b hb => by rw [List.mem_singleton.mp hb]; exact ⟨_, Heap.get?_push_size _ rfl⟩)
  refine ⟨_, _, μ, ρ, [h1.objs.size], _, p, trivial, Itr.range, B', ⟨Nat.zero_le _, ?_⟩, fun b hb => by rw [List.mem_singleton.mp hb]; exact hn1, Ext.keeps hk rfl rfl⟩
  have e : Builtin.Range.rangeSize 0 k 1 = (k.toNat : Int) := by rw [rangeSize_one]; split <;> omega
  have e2 : (0 : Int) + ((0 : Nat) : Int) * 1 = 0 := by simp
  have e3 : (k.toNat : Int) - ((0 : Nat) : Int) = (k.toNat : Int) := by simp
  rw [e2, e3, ← e]
  exact Heap.get?_push_size _ rfl
end
end
section
open PySem PySem.Spec PySem.Calls PyProof.Rows PySem.W

section
variable {prog : Program} {w : World} {A : Around} {E : Value → Shared → Prop} {s : Shared}

theorem nextOf_tup {it t : Addr} {i : Nat} {items : Array Value} {x : Value} {Q : Value → Shared → Prop} (hit : s.heap.IsTupleIter it t i) (ht : s.heap.IsTuple t items) (hx : items[i]? = some x)
    (hQ : ∀ h', h'.IsTupleIter it t (i + 1) → Heap.SameBut it s.heap h' → Q x { s with heap := h' }) : wpAny (model prog w) A (Builtin.SmallTypes.nextOf (.ref it)) Q E s := by
  obtain ⟨o, ho, hc, hd⟩ := id hit
  obtain ⟨ot, hot, _, nt, hdt⟩ := ht
  unfold Builtin.SmallTypes.nextOf
  refine wpAny_bind (wpAny_callSpecial?_slot (name := Str.ofString "__next__") hit.typeIs F.slot_tuple_iterator_next (wpAny_call_entry F.slot_tuple_iterator_next hit.typeIs F.entry_tuple_iterator_next ?_ (F.args_tuple_iterator_next_1 _)))
  show wpAny _ _ (field (.ref it) 0 >>= _) _ _ s
  refine wpAny_bind (wpAny_field ho hd (x := .ref t) rfl ?_)
  show wpAny _ _ (if (Value.ref t == Value.none) = true then _ else _) _ _ s
  rw [if_neg (show ¬ ((Value.ref t == Value.none) = true) from Bool.false_ne_true)]
  show wpAny _ _ (field (.ref it) 1 >>= _) _ _ s
  refine wpAny_bind (wpAny_field ho hd (x := .int i 0) rfl ?_)
  show wpAny _ _ (seqItems? (.ref t) >>= _) _ _ s
  refine wpAny_bind (wpAny_seqItems hot hdt ?_)
  simp only [Int.toNat_natCast, hx]
  refine wpAny_bind (wpAny_setField ho hd (by simp) (wpAny_pure ⟨x, rfl, wpAny_pure (hQ _ ⟨_, Heap.get?_update_self _ ho (Obj.isFreed_of_fields (Obj.data_mapFields hd _)), (Obj.cls_mapFields ..).trans hc, ?_⟩ (Heap.SameBut.update ..))⟩))
  rw [Obj.data_mapFields hd]; simp [rawInt]
theorem nextOf_tup_end {it t : Addr} {i : Nat} {items : Array Value} {Q : Value → Shared → Prop} (hh : A.handled = none) (hit : s.heap.IsTupleIter it t i) (ht : s.heap.IsTuple t items) (hx : items[i]? = none)
    (hE : ∀ h' e, Heap.ExtBut it s.heap h' → (∃ o, h'.get? e = some o ∧ o.cls = .type "StopIteration") → E (.ref e) { s with heap := h' }) : wpAny (model prog w) A (Builtin.SmallTypes.nextOf (.ref it)) Q E s := by
  obtain ⟨o, ho, hc, hd⟩ := id hit
  obtain ⟨ot, hot, _, nt, hdt⟩ := ht
  unfold Builtin.SmallTypes.nextOf
  refine wpAny_bind (wpAny_callSpecial?_slot (name := Str.ofString "__next__") hit.typeIs F.slot_tuple_iterator_next (wpAny_call_entry F.slot_tuple_iterator_next hit.typeIs F.entry_tuple_iterator_next ?_ (F.args_tuple_iterator_next_1 _)))
  show wpAny _ _ (field (.ref it) 0 >>= _) _ _ s
  refine wpAny_bind (wpAny_field ho hd (x := .ref t) rfl ?_)
  show wpAny _ _ (if (Value.ref t == Value.none) = true then _ else _) _ _ s
  rw [if_neg (show ¬ ((Value.ref t == Value.none) = true) from Bool.false_ne_true)]
  show wpAny _ _ (field (.ref it) 1 >>= _) _ _ s
  refine wpAny_bind (wpAny_field ho hd (x := .int i 0) rfl ?_)
  show wpAny _ _ (seqItems? (.ref t) >>= _) _ _ s
  refine wpAny_bind (wpAny_seqItems hot hdt ?_)
  simp only [Int.toNat_natCast, hx]
  refine wpAny_bind (wpAny_rule (wpAny_bind (wpAny_setField ho hd (by simp) ?_)))
  show wpAny _ _ (newExc (.type "StopIteration") [] >>= _) _ _ _
  refine wpAny_bind ?_
  simp only [newExc, newTuple]
  refine wpAny_bind (wpAny_newObj_type ?_ (by size_fits))
  refine wpAny_bind (m := firstArgMember _ _) (wpAny_of_eq (a := Value.none) (by first | rfl | (simp only [firstArgMember]; rfl)) ?_)
  refine wpAny_newObj_type ?_ (by size_fits)
  simp only [raiseNew]
  refine wpAny_bind (wpAny_handled ?_)
  first | rw [show A.in1.handled = none from hh] | rw [hh]
  exact wpAny_bind (wpAny_pure (wpAny_throw (hE _ _ (((Heap.SameBut.update ..).extBut.push _).push _) ⟨_, Heap.get?_push_size _ rfl, rfl⟩)))

/-- a zip over two tuples, between two turns -/
structure ZipT (h : Heap) (z TI TO i1 i2 l1 l2 : Addr) (k : Nat) : Prop where
  z : IsZip h z TI TO .none
  ti : IsPair h TI (.ref i1) (.ref i2)
  tO : ∃ a b, IsPair h TO a b
  i1 : h.IsTupleIter i1 l1 k
  i2 : h.IsTupleIter i2 l2 k

theorem zip_step {z TI TO i1 i2 l1 l2 : Addr} {k : Nat} {xs ys : Array Value} {x y : Value} {Q : Value → Shared → Prop} (D : ZipApart z TI TO i1 i2 l1 l2) (Z : ZipT s.heap z TI TO i1 i2 l1 l2 k)
    (hl1 : s.heap.IsTuple l1 xs) (hl2 : s.heap.IsTuple l2 ys) (hx : xs[k]? = some x) (hy : ys[k]? = some y)
    (hQ : ∀ h', IsZip h' z TI TO (rawInt s.heap.objs.size) → IsPair h' TO x y → h'.IsTupleIter i1 l1 (k + 1) → h'.IsTupleIter i2 l2 (k + 1) → IsPair h' s.heap.objs.size x y →
      (∀ c o, c ≠ z → c ≠ TO → c ≠ i1 → c ≠ i2 → s.heap.get? c = some o → h'.get? c = some o) → Q (.ref s.heap.objs.size) { s with heap := h' }) :
    wpAny (model prog w) A (Builtin.«zip.__next__» ⟨[.ref z], []⟩) (fun fin s' => ∃ v, fin = .done (.ret v) ∧ Q v s') E s := by
  obtain ⟨hz, hTI, ⟨a, b, hTO⟩, h1, h2⟩ := Z
  show wpAny _ _ (field (.ref z) 2 >>= _) _ _ _
  refine wpAny_bind (wpAny_field hz rfl (x := .bool false) rfl ?_)
  show wpAny _ _ (field (.ref z) 3 >>= _) _ _ _
  refine wpAny_bind (wpAny_field hz rfl (x := .ref TI) rfl ?_)
  refine wpAny_bind (wpAny_seqItems hTI rfl ?_)
  show wpAny _ _ (Builtin.SmallTypes.ownedTupleIsFree (.ref z) >>= _) _ _ _
  refine wpAny_bind ?_
  unfold Builtin.SmallTypes.ownedTupleIsFree
  refine wpAny_bind (wpAny_field hz rfl (x := .none) rfl (wpAny_pure ?_))
  simp only [if_true]
  refine wpAny_bind (wpAny_rule ?_)
  refine wpAny_bind (wpAny_field hz rfl (x := .ref TO) rfl ?_)
  refine wpAny_bind (wpAny_setField_rec hz (by simp) fun h₁ hz₁ hs₁ => ?_)
  replace hz₁ : IsZip h₁ z TI TO .ellipsis := hz₁
  refine wpAny_bind ?_
  simp only [List.zipIdx_cons, List.zipIdx_nil, List.forIn_cons, List.forIn_nil]
  refine wpAny_bind (wpAny_bind (wpAny_onRaise ?_))
  show wpAny _ _ (Builtin.SmallTypes.nextOf (.ref i1) >>= _) _ _ _
  refine wpAny_bind (nextOf_tup (h1.extBut hs₁.extBut D.i1z) (hl1.extBut hs₁.extBut D.l1z) hx fun h₂ h1₂ hs₂ => wpAny_pure ?_)
  have hTO₂ : IsPair h₂ TO a b := hs₂.extBut _ _ D.TOi1 (hs₁.extBut _ _ D.TOz hTO)
  refine wpAny_bind (wpAny_seqItems hTO₂ rfl ?_)
  refine wpAny_bind (wpAny_updateSeq_pair hTO₂ fun h₃ hTO₃ hs₃ => ?_)
  replace hTO₃ : IsPair h₃ TO x b := hTO₃
  refine wpAny_bind (wpAny_letGo (wpAny_pure ?_))
  refine wpAny_bind (wpAny_bind (wpAny_onRaise ?_))
  show wpAny _ _ (Builtin.SmallTypes.nextOf (.ref i2) >>= _) _ _ _
  refine wpAny_bind (nextOf_tup (((h2.extBut hs₁.extBut D.i2z).extBut hs₂.extBut D.i12.symm).extBut hs₃.extBut D.TOi2.symm) (((hl2.extBut hs₁.extBut D.l2z).extBut hs₂.extBut D.l2i1).extBut hs₃.extBut D.l2TO) hy fun h₄ h2₄ hs₄ => wpAny_pure ?_)
  have hTO₄ : IsPair h₄ TO x b := hs₄.extBut _ _ D.TOi2 hTO₃
  refine wpAny_bind (wpAny_seqItems hTO₄ rfl ?_)
  refine wpAny_bind (wpAny_updateSeq_pair hTO₄ fun h₅ hTO₅ hs₅ => ?_)
  replace hTO₅ : IsPair h₅ TO x y := hTO₅
  refine wpAny_bind (wpAny_letGo (wpAny_pure (wpAny_pure ?_)))
  refine wpAny_bind (wpAny_seqItems hTO₅ rfl ?_)
  refine wpAny_bind (wpAny_newTuple ?_)
  have hsz : h₅.objs.size = s.heap.objs.size := by rw [hs₅.1, hs₄.1, hs₃.1, hs₂.1, hs₁.1]
  have hz₅ : IsZip h₅ z TI TO .ellipsis := hs₅.extBut _ _ D.TOz.symm (hs₄.extBut _ _ D.i2z.symm (hs₃.extBut _ _ D.TOz.symm (hs₂.extBut _ _ D.i1z.symm hz₁)))
  have hk₅ : ∀ c o, c ≠ z → c ≠ TO → c ≠ i1 → c ≠ i2 → s.heap.get? c = some o → h₅.get? c = some o := fun c o c1 c2 c3 c4 e => hs₅.extBut _ _ c2 (hs₄.extBut _ _ c4 (hs₃.extBut _ _ c2 (hs₂.extBut _ _ c3 (hs₁.extBut _ _ c1 e))))
  have h1₅ : h₅.IsTupleIter i1 l1 (k + 1) := ((h1₂.extBut hs₃.extBut D.TOi1.symm).extBut hs₄.extBut D.i12).extBut hs₅.extBut D.TOi1.symm
  have h2₅ : h₅.IsTupleIter i2 l2 (k + 1) := h2₄.extBut hs₅.extBut D.TOi2.symm
  have hzlt : z < h₅.objs.size := Heap.lt_size hz₅
  show wpAny _ _ (Builtin.SmallTypes.ownedTupleHandOut (.ref z) (.ref h₅.objs.size) >>= _) _ _ _
  refine wpAny_bind ?_
  unfold Builtin.SmallTypes.ownedTupleHandOut
  have hz₆ : IsZip (h₅.push { cls := .type "tuple", data := .seq #[x, y] }) z TI TO .ellipsis := Heap.get?_push_of_some _ hz₅
  refine wpAny_bind (wpAny_setField_rec hz₆ (by simp) fun h₇ hz₇ hs₇ => ?_)
  replace hz₇ : IsZip h₇ z TI TO (rawInt h₅.objs.size) := hz₇
  refine wpAny_setField_rec hz₇ (by simp) fun h₈ hz₈ hs₈ => ?_
  replace hz₈ : IsZip h₈ z TI TO (rawInt h₅.objs.size) := hz₈
  have up : ∀ c o, c ≠ z → h₅.get? c = some o → h₈.get? c = some o := fun c o c1 e => hs₈.extBut _ _ c1 (hs₇.extBut _ _ c1 (Heap.get?_push_of_some _ e))
  have hT₈ : IsPair h₈ h₅.objs.size x y := hs₈.extBut _ _ (Nat.ne_of_gt hzlt) (hs₇.extBut _ _ (Nat.ne_of_gt hzlt) (Heap.get?_push_size _ rfl))
  rw [hsz] at hz₈ hT₈
  refine wpAny_pure ⟨_, rfl, ?_⟩
  show Q (.ref h₅.objs.size) _
  rw [hsz]
  exact hQ h₈ hz₈ (up _ _ D.TOz hTO₅) (h1₅.at fun o e => up _ o D.i1z e) (h2₅.at fun o e => up _ o D.i2z e) hT₈ fun c o c1 c2 c3 c4 e => up c o c1 (hk₅ c o c1 c2 c3 c4 e)

theorem zip_stop {z TI TO i1 i2 l1 l2 : Addr} {k : Nat} {xs ys : Array Value} {Q : PySem.Fin → Shared → Prop} (hh : A.handled = none) (D : ZipApart z TI TO i1 i2 l1 l2) (Z : ZipT s.heap z TI TO i1 i2 l1 l2 k)
    (hl1 : s.heap.IsTuple l1 xs) (hl2 : s.heap.IsTuple l2 ys) (hend : xs[k]? = none ∨ ys[k]? = none)
    (hE : ∀ h' e, (∀ c o, c ≠ z → c ≠ TO → c ≠ i1 → c ≠ i2 → s.heap.get? c = some o → h'.get? c = some o) → (∃ o, h'.get? e = some o ∧ o.cls = .type "StopIteration") → E (.ref e) { s with heap := h' }) :
    wpAny (model prog w) A (Builtin.«zip.__next__» ⟨[.ref z], []⟩) Q E s := by
  obtain ⟨hz, hTI, ⟨a, b, hTO⟩, h1, h2⟩ := Z
  show wpAny _ _ (field (.ref z) 2 >>= _) _ _ _
  refine wpAny_bind (wpAny_field hz rfl (x := .bool false) rfl ?_)
  show wpAny _ _ (field (.ref z) 3 >>= _) _ _ _
  refine wpAny_bind (wpAny_field hz rfl (x := .ref TI) rfl ?_)
  refine wpAny_bind (wpAny_seqItems hTI rfl ?_)
  show wpAny _ _ (Builtin.SmallTypes.ownedTupleIsFree (.ref z) >>= _) _ _ _
  refine wpAny_bind ?_
  unfold Builtin.SmallTypes.ownedTupleIsFree
  refine wpAny_bind (wpAny_field hz rfl (x := .none) rfl (wpAny_pure ?_))
  simp only [if_true]
  refine wpAny_bind (wpAny_rule ?_)
  refine wpAny_bind (wpAny_field hz rfl (x := .ref TO) rfl ?_)
  refine wpAny_bind (wpAny_setField_rec hz (by simp) fun h₁ hz₁ hs₁ => ?_)
  replace hz₁ : IsZip h₁ z TI TO .ellipsis := hz₁
  refine wpAny_bind ?_
  simp only [List.zipIdx_cons, List.zipIdx_nil, List.forIn_cons, List.forIn_nil]
  refine wpAny_bind (wpAny_bind (wpAny_onRaise ?_))
  show wpAny _ _ (Builtin.SmallTypes.nextOf (.ref i1) >>= _) _ _ _
  cases hx : xs[k]? with
  | none =>
    refine wpAny_bind (nextOf_tup_end hh (h1.extBut hs₁.extBut D.i1z) (hl1.extBut hs₁.extBut D.l1z) hx fun h₂ e hs₂ he => ?_)
    obtain ⟨oe, hoe, hce⟩ := he
    have hz₂ : IsZip h₂ z TI TO .ellipsis := hs₂ _ _ D.i1z.symm hz₁
    have hez : e ≠ z := fun x => by subst x; rw [hz₂] at hoe; cases hoe; simp at hce
    exact wpAny_setField_rec hz₂ (by simp) fun h₃ _ hs₃ => hE h₃ e (fun c o c1 _ c3 _ x => hs₃.extBut _ _ c1 (hs₂ _ _ c3 (hs₁.extBut _ _ c1 x))) ⟨oe, hs₃.extBut _ _ hez hoe, hce⟩
  | some x =>
    have hy : ys[k]? = none := hend.elim (fun q => by rw [hx] at q; cases q) id
    refine wpAny_bind (nextOf_tup (h1.extBut hs₁.extBut D.i1z) (hl1.extBut hs₁.extBut D.l1z) hx fun h₂ h1₂ hs₂ => wpAny_pure ?_)
    have hTO₂ : IsPair h₂ TO a b := hs₂.extBut _ _ D.TOi1 (hs₁.extBut _ _ D.TOz hTO)
    refine wpAny_bind (wpAny_seqItems hTO₂ rfl ?_)
    refine wpAny_bind (wpAny_updateSeq_pair hTO₂ fun h₃ hTO₃ hs₃ => ?_)
    refine wpAny_bind (wpAny_letGo (wpAny_pure ?_))
    refine wpAny_bind (wpAny_bind (wpAny_onRaise ?_))
    show wpAny _ _ (Builtin.SmallTypes.nextOf (.ref i2) >>= _) _ _ _
    refine wpAny_bind (nextOf_tup_end hh (((h2.extBut hs₁.extBut D.i2z).extBut hs₂.extBut D.i12.symm).extBut hs₃.extBut D.TOi2.symm) (((hl2.extBut hs₁.extBut D.l2z).extBut hs₂.extBut D.l2i1).extBut hs₃.extBut D.l2TO) hy fun h₄ e hs₄ he => ?_)
    obtain ⟨oe, hoe, hce⟩ := he
    have hz₄ : IsZip h₄ z TI TO .ellipsis := hs₄ _ _ D.i2z.symm (hs₃.extBut _ _ D.TOz.symm (hs₂.extBut _ _ D.i1z.symm hz₁))
    have hez : e ≠ z := fun x => by subst x; rw [hz₄] at hoe; cases hoe; simp at hce
    exact wpAny_setField_rec hz₄ (by simp) fun h₅ _ hs₅ => hE h₅ e (fun c o c1 c2 c3 c4 x => hs₅.extBut _ _ c1 (hs₄ _ _ c4 (hs₃.extBut _ _ c2 (hs₂.extBut _ _ c3 (hs₁.extBut _ _ c1 x))))) ⟨oe, hs₅.extBut _ _ hez hoe, hce⟩

noncomputable def zipHeap (h : Heap) (l1 l2 : Addr) : Heap :=
  let h1 := h.push { cls := .type "tuple_iterator", data := .fields #[.ref l1, .int 0 0] }
  let h2 := h1.push { cls := .type "tuple_iterator", data := .fields #[.ref l2, .int 0 0] }
  let h3 := h2.push { cls := .type "tuple", data := .seq #[.ref h.objs.size, .ref h1.objs.size] }
  let h4 := h3.push { cls := .type "tuple", data := .seq #[.none, .none] }
  h4.push { cls := .type "zip", data := .fields #[.none, .bool false, .bool false, .ref h2.objs.size, .ref h3.objs.size] }
noncomputable def zipAddr (h : Heap) (l1 l2 : Addr) : Addr :=
  let h1 := h.push { cls := .type "tuple_iterator", data := .fields #[.ref l1, .int 0 0] }
  let h2 := h1.push { cls := .type "tuple_iterator", data := .fields #[.ref l2, .int 0 0] }
  let h3 := h2.push { cls := .type "tuple", data := .seq #[.ref h.objs.size, .ref h1.objs.size] }
  let h4 := h3.push { cls := .type "tuple", data := .seq #[.none, .none] }
  h4.objs.size
theorem zipAddr_eq (h : Heap) (l1 l2 : Addr) : zipAddr h l1 l2 = h.objs.size + 4 := by
  unfold zipAddr
  simp only [Heap.size_push]
theorem zip_new (l1 l2 : Addr) (xs ys : Array Value) :
    Meets (Builtin.«zip.__new__» ⟨[.type "zip", .ref l1, .ref l2], []⟩) (fun _ R s => s.heap.IsTuple l1 xs ∧ s.heap.IsTuple l2 ys ∧
      R (.ok (.ret (.ref (zipAddr s.heap l1 l2)))) { s with heap := zipHeap s.heap l1 l2 }) :=
  .of_wp fun prog w A R s h => by
    obtain ⟨hp, g, d, tk, os⟩ := s; obtain ⟨hl1, hl2, h⟩ := h
    have hsub := sub_zip
    have hL1 : Heap.IsTuple (Shared.heap ⟨hp, g, d, tk, os⟩) l1 xs := hl1
    have hL2 : Heap.IsTuple (Shared.heap ⟨hp.push { cls := .type "tuple_iterator", data := .fields #[.ref l1, .int 0 0] }, g, d, tk, os⟩) l2 ys := Heap.IsTuple.push hl2 _
    wp_walk using wpAny_pyIter_tuple hL1, wpAny_pyIter_tuple hL2
    exact ⟨_, rfl, h⟩

theorem call_zipT {l1 l2 : Addr} {xs ys : Array Value} {Q : Value → Shared → Prop} (hl1 : s.heap.IsTuple l1 xs) (hl2 : s.heap.IsTuple l2 ys)
    (h : ∀ h', ZipT h' (s.heap.objs.size + 4) (s.heap.objs.size + 2) (s.heap.objs.size + 3) s.heap.objs.size (s.heap.objs.size + 1) l1 l2 0 → (∀ c o, s.heap.get? c = some o → h'.get? c = some o) → Q (.ref (s.heap.objs.size + 4)) { s with heap := h' }) :
    wpAny (model prog w) A (call (.type "zip") [.ref l1, .ref l2]) Q E s := by
  refine callType_new F.called_zip (by decide) (F.typeCall_zip_2 _ _) (F.newCall_zip_2 _ _) (fun obj => F.args_object_init_3 obj _ _) F.entry_zip_new (zip_new l1 l2 xs ys) ⟨hl1, hl2, ?_⟩
  show _ ∧ _
  rw [zipAddr_eq]
  unfold zipHeap
  dsimp only
  generalize e1 : s.heap.push { cls := .type "tuple_iterator", data := .fields #[.ref l1, .int 0 0] } = h1
  have z1 : h1.objs.size = s.heap.objs.size + 1 := by rw [← e1, Heap.size_push]
  have g1 : h1.get? s.heap.objs.size = some { cls := .type "tuple_iterator", data := .fields #[.ref l1, .int 0 0] } := by rw [← e1]; exact Heap.get?_push_size _ rfl
  have k1 : ∀ c o, s.heap.get? c = some o → h1.get? c = some o := fun c o e => by rw [← e1]; exact Heap.get?_push_of_some _ e
  generalize e2 : h1.push { cls := .type "tuple_iterator", data := .fields #[.ref l2, .int 0 0] } = h2
  have z2 : h2.objs.size = s.heap.objs.size + 2 := by rw [← e2, Heap.size_push, z1]
  have g2 : h2.get? (s.heap.objs.size + 1) = some { cls := .type "tuple_iterator", data := .fields #[.ref l2, .int 0 0] } := by rw [← e2, ← z1]; exact Heap.get?_push_size _ rfl
  have k2 : ∀ c o, h1.get? c = some o → h2.get? c = some o := fun c o e => by rw [← e2]; exact Heap.get?_push_of_some _ e
  rw [z1, z2]
  generalize e3 : h2.push { cls := .type "tuple", data := .seq #[.ref s.heap.objs.size, .ref (s.heap.objs.size + 1)] } = h3
  have z3 : h3.objs.size = s.heap.objs.size + 3 := by rw [← e3, Heap.size_push, z2]
  have g3 : IsPair h3 (s.heap.objs.size + 2) (.ref s.heap.objs.size) (.ref (s.heap.objs.size + 1)) := by rw [← e3, ← z2]; exact Heap.get?_push_size _ rfl
  have k3 : ∀ c o, h2.get? c = some o → h3.get? c = some o := fun c o e => by rw [← e3]; exact Heap.get?_push_of_some _ e
  rw [z3]
  generalize e4 : h3.push { cls := .type "tuple", data := .seq #[.none, .none] } = h4
  have z4 : h4.objs.size = s.heap.objs.size + 4 := by rw [← e4, Heap.size_push, z3]
  have g4 : IsPair h4 (s.heap.objs.size + 3) .none .none := by rw [← e4, ← z3]; exact Heap.get?_push_size _ rfl
  have k4 : ∀ c o, h3.get? c = some o → h4.get? c = some o := fun c o e => by rw [← e4]; exact Heap.get?_push_of_some _ e
  generalize e5 : h4.push { cls := .type "zip", data := .fields #[.none, .bool false, .bool false, .ref (s.heap.objs.size + 2), .ref (s.heap.objs.size + 3)] } = h5
  have g5 : IsZip h5 (s.heap.objs.size + 4) (s.heap.objs.size + 2) (s.heap.objs.size + 3) .none := by rw [← e5, ← z4]; exact Heap.get?_push_size _ rfl
  have k5 : ∀ c o, h4.get? c = some o → h5.get? c = some o := fun c o e => by rw [← e5]; exact Heap.get?_push_of_some _ e
  exact ⟨⟨_, g5, rfl⟩, h _ ⟨g5, k5 _ _ (k4 _ _ g3), ⟨_, _, k5 _ _ g4⟩, ⟨_, k5 _ _ (k4 _ _ (k3 _ _ (k2 _ _ g1))), rfl, rfl⟩, ⟨_, k5 _ _ (k4 _ _ (k3 _ _ g2)), rfl, rfl⟩⟩ fun c o e => k5 _ _ (k4 _ _ (k3 _ _ (k2 _ _ (k1 _ _ e))))⟩
end
end
section
open PySem PySem.Spec PySem.Calls PyProof.Rows PySem.W

section
variable {g : Gd} {n : Nat} {sc : Scope} {lm : Lm} {μ : List Cell} {elts : List Expr} {tk : Nat} {tp : Pos}

noncomputable def zipA (l₁ l₂ : List AV) : List AV := List.zipWith (fun a b => .tup [a, b]) l₁ l₂
noncomputable def enumA : Int → List AV → List AV
  | _, [] => []
  | k, a :: l => .tup [.int k, a] :: enumA (k + 1) l
theorem enumA_length : ∀ (l : List AV) (k : Int), (enumA k l).length = l.length
  | [], _ => rfl
  | _ :: l, k => by simp [enumA, enumA_length l]
theorem enumA_get : ∀ (l : List AV) (k : Int) (i : Nat) (a : AV), l[i]? = some a → (enumA k l)[i]? = some (.tup [.int (k + i), a])
  | [], _, _, _, h => by simp at h
  | b :: l, k, 0, a, h => by simp at h; subst h; simp [enumA]
  | b :: l, k, i + 1, a, h => by
    simp only [List.getElem?_cons_succ] at h
    simp only [enumA, List.getElem?_cons_succ]
    rw [enumA_get l (k + 1) i a h]
    congr 4
    push_cast
    omega

theorem mem5 {a b c d e x : Addr} (h : x ∈ [a, b, c, d, e]) : x = a ∨ x = b ∨ x = c ∨ x = d ∨ x = e := by simpa using h

theorem zipApart {b l1 l2 : Addr} (h1 : l1 ∉ [b + 4, b + 2, b + 3, b, b + 1]) (h2 : l2 ∉ [b + 4, b + 2, b + 3, b, b + 1]) : ZipApart (b + 4) (b + 2) (b + 3) b (b + 1) l1 l2 := by
  simp only [List.mem_cons, not_or, List.not_mem_nil, not_false_eq_true, and_true] at h1 h2
  obtain ⟨a1, a2, a3, a4, a5⟩ := h1
  obtain ⟨b1, b2, b3, b4, b5⟩ := h2
  have q1 : ∀ b : Nat, b + 2 ≠ b + 4 := by intro b; omega
  have q2 : ∀ b : Nat, b + 3 ≠ b + 4 := by intro b; omega
  have q3 : ∀ b : Nat, b ≠ b + 4 := by intro b; omega
  have q4 : ∀ b : Nat, b + 1 ≠ b + 4 := by intro b; omega
  have q5 : ∀ b : Nat, b + 2 ≠ b + 3 := by intro b; omega
  have q6 : ∀ b : Nat, b + 2 ≠ b := by intro b; omega
  have q7 : ∀ b : Nat, b + 2 ≠ b + 1 := by intro b; omega
  have q8 : ∀ b : Nat, b + 3 ≠ b := by intro b; omega
  have q9 : ∀ b : Nat, b + 3 ≠ b + 1 := by intro b; omega
  have q10 : ∀ b : Nat, b ≠ b + 1 := by intro b; omega
  exact ⟨q1 b, q2 b, q3 b, q4 b, q5 b, q6 b, q7 b, q8 b, q9 b, q10 b, a1, a3, a4, a5, b1, b3, b4, b5⟩

theorem Itr.zip {b a1 a2 : Addr} {xs ys : Array Value} {m1 m2 : Nat} {l1 l2 : List AV} : Itr g n (.Tuple elts tk tp) (.ref (b + 4)) [b + 4, b + 2, b + 3, b, b + 1] (zipA l1 l2) (fun _ => True)
    (fun i H ρ s => ZipT s.heap (b + 4) (b + 2) (b + 3) b (b + 1) a1 a2 i ∧ (Vis H ρ s.heap a1 { cls := .type "tuple", data := .seq xs m1 } ∧ Vis H ρ s.heap a2 { cls := .type "tuple", data := .seq ys m2 }) ∧ RVs (Vis H ρ s.heap) ρ l1 xs.toList ∧ RVs (Vis H ρ s.heap) ρ l2 ys.toList) where
  frame := fun i H H' ρ ρ' s s' ⟨⟨z1, z2, ⟨p, q, z3⟩, z4, z5⟩, ⟨h1, h2⟩, h3, h4⟩ hk hv hs =>
    ⟨⟨hk _ (by simp) _ z1, hk _ (by simp) _ z2, ⟨p, q, hk _ (by simp) _ z3⟩, z4.at fun o e => hk _ (by simp) o e, z5.at fun o e => hk _ (by simp) o e⟩, ⟨hv _ _ h1, hv _ _ h2⟩, h3.mono hv hs, h4.mono hv hs⟩
  self := fun A H ρ s i E Q hA st hQ => wpAny_pyIter_zip st.1.z hQ
  next := fun A H ρ s μ i E hA B _ hO ⟨Z, ⟨h1, h2⟩, h3, h4⟩ => by
    have D : ZipApart (b + 4) (b + 2) (b + 3) b (b + 1) a1 a2 := zipApart (fun q => h1.2.1 (hO _ q)) (fun q => h2.2.1 (hO _ q))
    have t1 : s.heap.IsTuple a1 xs := ⟨_, h1.1, rfl, _, rfl⟩
    have t2 : s.heap.IsTuple a2 ys := ⟨_, h2.1, rfl, _, rfl⟩
    have hT : s.TypeIs (.ref (b + 4)) "zip" := ⟨_, Z.z, rfl⟩
    have hz1 := h3.length
    have hz2 := h4.length
    simp at hz1 hz2
    have hne : ∀ c, c ∉ [b + 4, b + 2, b + 3, b, b + 1] → c ≠ b + 4 ∧ c ≠ b + 3 ∧ c ≠ b ∧ c ≠ b + 1 := fun c hc => by
      simp only [List.mem_cons, not_or, List.not_mem_nil, not_false_eq_true, and_true] at hc
      exact ⟨hc.1, hc.2.2.1, hc.2.2.2.1, hc.2.2.2.2⟩
    have stop : ∀ {Q : Option Value → Shared → Prop}, (xs[i]? = none ∨ ys[i]? = none) → ((zipA l1 l2).length ≤ i → ∀ h', (∀ c o, c ∉ [b + 4, b + 2, b + 3, b, b + 1] → s.heap.get? c = some o → h'.get? c = some o) → Q none { s with heap := h' }) → wpAny (model g.prog g.w) A (pyNext (.ref (b + 4))) Q E s := fun hend hQ => by
      unfold pyNext
      refine wpAny_bind (wpAny_attempt (wpAny_callSpecial?_slot (name := Str.ofString "__next__") hT F.slot_zip_next
        (wpAny_call_entry F.slot_zip_next hT F.entry_zip_next (zip_stop hA.handled D Z t1 t2 hend fun h' e hk he => ?_) (F.args_zip_next_1 _))))
      obtain ⟨o, ho, hc⟩ := he
      refine wpAny_bind (wpAny_isInstance (T := "StopIteration") (b := true) ⟨o, ho, hc⟩ isSubtype_stop ?_)
      refine wpAny_pure (hQ ?_ h' fun c o hc e => ?_)
      · simp only [zipA, List.length_zipWith]
        rcases hend with q | q <;> simp at q <;> omega
      · obtain ⟨c1, c2, c3, c4⟩ := hne c hc
        exact hk c o c1 c2 c3 c4 e
    cases hx : xs[i]? with
    | none => exact stop (.inl hx) fun hl h' hk => ⟨hl, hk, rfl, rfl⟩
    | some x =>
      cases hy : ys[i]? with
      | none => exact stop (.inr hy) fun hl h' hk => ⟨hl, hk, rfl, rfl⟩
      | some y =>
        unfold pyNext
        refine wpAny_bind (wpAny_attempt (wpAny_callSpecial?_slot (name := Str.ofString "__next__") hT F.slot_zip_next
          (wpAny_call_entry F.slot_zip_next hT F.entry_zip_next (zip_step D Z t1 t2 hx hy fun h' b1 b2 b3 b4 b5 hk => wpAny_pure ?_) (F.args_zip_next_1 _))))
        refine wpAny_letOwnedTupleGo_zip b1 fun h'' hz'' hs'' => ?_
        obtain ⟨p, hp, rp⟩ := h3.get' (i := i) (v := x) (by simpa using hx)
        obtain ⟨q, hq, rq⟩ := h4.get' (i := i) (v := y) (by simpa using hy)
        have hz : b + 4 < s.heap.objs.size := Heap.lt_size Z.z
        have hkk : ∀ c o, c ∉ [b + 4, b + 2, b + 3, b, b + 1] → s.heap.get? c = some o → h''.get? c = some o := fun c o hc e => by
          obtain ⟨c1, c2, c3, c4⟩ := hne c hc
          exact hs''.extBut _ _ c1 (hk c o c1 c2 c3 c4 e)
        have z2 : IsPair h'' (b + 2) (.ref b) (.ref (b + 1)) := hs''.extBut _ _ D.TIz (hk _ _ D.TIz D.TITO D.TIi1 D.TIi2 Z.ti)
        have z3 : IsPair h'' (b + 3) x y := hs''.extBut _ _ D.TOz b2
        have z4 : h''.IsTupleIter b a1 (i + 1) := b3.extBut hs''.extBut D.i1z
        have z5 : h''.IsTupleIter (b + 1) a2 (i + 1) := b4.extBut hs''.extBut D.i2z
        have hth : ∀ c ∈ [b + 4, b + 2, b + 3, b, b + 1], ∃ o, h''.get? c = some o := fun c hc => by
          rcases mem5 hc with rfl | rfl | rfl | rfl | rfl
          · exact ⟨_, hz''⟩
          · exact ⟨_, z2⟩
          · exact ⟨_, z3⟩
          · obtain ⟨o, e, _⟩ := z4; exact ⟨o, e⟩
          · obtain ⟨o, e, _⟩ := z5; exact ⟨o, e⟩
        have X : Ext [b + 4, b + 2, b + 3, b, b + 1] ρ ρ s { s with heap := h'' } := Ext.kp hkk (fun c hc _ => hth c hc) rfl rfl
        have B' : Base g H μ ρ { s with heap := h'' } := B.kp hO hkk hth
        have T : IsPair h'' s.heap.objs.size x y := hs''.extBut _ _ (Nat.ne_of_gt hz) b5
        refine ⟨.tup [p, q], ?_, B', X, .tup ⟨T, B.freshH, B.freshρ⟩ (.cons (X.rv hO rp) (.cons (X.rv hO rq) .nil)), ⟨hz'', z2, ⟨_, _, z3⟩, z4, z5⟩, ⟨X.vis hO _ _ h1, X.vis hO _ _ h2⟩, h3.mono (X.vis hO) X.pre, h4.mono (X.vis hO) X.pre⟩
        simp [zipA, List.getElem?_zipWith, hp, hq]

theorem CallI.zip {l1 l2 : List AV} {P : List AV → (List Cell → Prop) → List Cell → Prop} (p : P (zipA l1 l2) (fun _ => True) μ) : CallI g n (.Tuple elts tk tp) (.type "zip") [.tup l1, .tup l2] μ P := by
  intro A H ρ s vs E hA B r
  cases r with
  | cons hr1 r =>
  cases r with
  | cons hr2 r =>
  cases r
  cases hr1 with
  | @tup _ a1 xs m1 ho1 hs1 =>
  cases hr2 with
  | @tup _ a2 ys m2 ho2 hs2 =>
  refine call_zipT ⟨_, ho1.1, rfl, _, rfl⟩ ⟨_, ho2.1, rfl, _, rfl⟩ fun h' Z hk => ?_
  refine wpAny_pyIter_zip Z.z ?_
  have hn : ∀ c ∈ [s.heap.objs.size + 4, s.heap.objs.size + 2, s.heap.objs.size + 3, s.heap.objs.size, s.heap.objs.size + 1], s.heap.get? c = none := fun c hc => by
    cases e : s.heap.get? c with
    | none => rfl
    | some o =>
      have h1 : c < s.heap.objs.size := Heap.lt_size e
      have h2 : s.heap.objs.size ≤ c := by rcases mem5 hc with rfl | rfl | rfl | rfl | rfl <;> omega
      exact absurd h1 (Nat.not_lt.mpr h2)
  obtain ⟨B', hv⟩ := B.enter (O := [s.heap.objs.size + 4, s.heap.objs.size + 2, s.heap.objs.size + 3, s.heap.objs.size, s.heap.objs.size + 1]) (s' := { s with heap := h' }) hk hn (fun c hc => by
    obtain ⟨z1, z2, ⟨_, _, z3⟩, ⟨o4, z4, _⟩, ⟨o5, z5, _⟩⟩ := Z
    rcases mem5 hc with rfl | rfl | rfl | rfl | rfl
    · exact ⟨_, z1⟩
    · exact ⟨_, z2⟩
    · exact ⟨_, z3⟩
    · exact ⟨_, z4⟩
    · exact ⟨_, z5⟩)
  exact ⟨_, _, μ, ρ, _, _, p, trivial, Itr.zip (xs := xs) (ys := ys) (m1 := m1) (m2 := m2), B', ⟨Z, ⟨hv _ _ ho1, hv _ _ ho2⟩, hs1.mono hv (Sub.refl _), hs2.mono hv (Sub.refl _)⟩, hn, Ext.keeps hk rfl rfl⟩

theorem Itr.enum {e it ax : Addr} {its : Array Value} {m : Nat} {l : List AV} (hei : e ≠ it) : Itr g n (.Tuple elts tk tp) (.ref e) [e, it] (enumA 0 l) (fun _ => True)
    (fun i H ρ s => (∃ old, IsEnum s.heap e it (i : Nat) old) ∧ s.heap.IsListIter it ax i ∧ Vis H ρ s.heap ax { cls := .type "list", data := .seq its m } ∧ RVs (Vis H ρ s.heap) ρ l its.toList) where
  frame := fun i H H' ρ ρ' s s' ⟨⟨old, h0⟩, h1, h2, h3⟩ hk hv hs => ⟨⟨old, hk _ (by simp) _ h0⟩, h1.at fun o e => hk _ (by simp) o e, hv _ _ h2, h3.mono hv hs⟩
  self := fun A H ρ s i E Q hA ⟨⟨old, h0⟩, _⟩ hQ => wpAny_pyIter_enum h0 hQ
  next := fun A H ρ s μ i E hA B _ hO ⟨⟨old, h0⟩, h1, h2, h3⟩ => by
    have hl : s.heap.IsList ax its := ⟨_, h2.1, rfl, m, rfl⟩
    have hlen := h3.length
    simp at hlen
    cases hx : its[i]? with
    | none =>
      refine wpAny_pyNext_enum_end hA.handled h0 h1 hl hx fun h' he => ⟨?_, fun b o hb e => he b o (fun q => hb (by simp [q])) e, rfl, rfl⟩
      rw [enumA_length]
      simp at hx
      omega
    | some v =>
      refine wpAny_pyNext_enum_item h0 h1 hl hx hei fun h' a1 a2 a3 a4 hk => ?_
      refine wpAny_letOwnedTupleGo_enum a1 fun h'' he'' hs'' => ?_
      have hlt : e < s.heap.objs.size := Heap.lt_size h0
      have hkk : ∀ b o, b ∉ [e, it] → s.heap.get? b = some o → h''.get? b = some o := fun b o hb eb => by
        simp only [List.mem_cons, not_or, List.not_mem_nil, not_false_eq_true, and_true] at hb
        exact hs''.extBut _ _ hb.1 (hk b o hb.1 hb.2 eb)
      have h1'' : h''.IsListIter it ax (i + 1) := a2.extBut hs''.extBut hei.symm
      have hth : ∀ c ∈ [e, it], ∃ o, h''.get? c = some o := fun c hc => by
        rcases List.mem_cons.mp hc with rfl | hc
        · exact ⟨_, he''⟩
        · rw [List.mem_singleton.mp hc]; obtain ⟨o, q, _⟩ := h1''; exact ⟨o, q⟩
      have X : Ext [e, it] ρ ρ s { s with heap := h'', toks := s.toks + 1 } := Ext.kp hkk (fun c hc _ => hth c hc) rfl rfl
      have B' : Base g H μ ρ { s with heap := h'', toks := s.toks + 1 } := B.kp hO hkk hth
      have T : h''.get? s.heap.objs.size = some { cls := .type "tuple", data := .seq #[.int i s.toks, v] } := hs''.extBut _ _ (Nat.ne_of_gt hlt) a3
      obtain ⟨p, hp, rp⟩ := h3.get' (i := i) (v := v) (by simpa using hx)
      refine ⟨.tup [.int i, p], ?_, B', X, .tup ⟨T, B.freshH, B.freshρ⟩ (.cons (.int _ _) (.cons (X.rv hO rp) .nil)), ⟨v, ?_⟩, h1'', X.vis hO _ _ h2, h3.mono (X.vis hO) X.pre⟩
      · rw [enumA_get l 0 i p hp]; simp
      · have : ((i + 1 : Nat) : Int) = (i : Int) + 1 := by push_cast; rfl
        rw [this]; exact he''

theorem CallI.enum {l : List AV} {P : List AV → (List Cell → Prop) → List Cell → Prop} (p : P (enumA 0 l) (fun _ => True) μ) : CallI g n (.Tuple elts tk tp) (.type "enumerate") [.lst l] μ P := by
  intro A H ρ s vs E hA B r
  cases r with
  | cons hr1 r =>
  cases r
  cases hr1 with
  | @lst _ a xs m ho hs =>
  refine call_enumerate_list ⟨_, ho.1, rfl, _, rfl⟩ fun h' he hi hsz hk => ?_
  refine wpAny_pyIter_enum he ?_
  have hn : ∀ c ∈ [s.heap.objs.size + 1, s.heap.objs.size], s.heap.get? c = none := fun c hc => by
    cases e : s.heap.get? c with
    | none => rfl
    | some o =>
      have h1 : c < s.heap.objs.size := Heap.lt_size e
      have h2 : s.heap.objs.size ≤ c := by
        rcases List.mem_cons.mp hc with rfl | hc
        · omega
        · rw [List.mem_singleton.mp hc]; exact Nat.le_refl _
      exact absurd h1 (Nat.not_lt.mpr h2)
  obtain ⟨B', hv⟩ := B.enter (O := [s.heap.objs.size + 1, s.heap.objs.size]) (s' := { s with heap := h' }) hk hn (fun c hc => by
    rcases List.mem_cons.mp hc with rfl | hc
    · exact ⟨_, he⟩
    · rw [List.mem_singleton.mp hc]; obtain ⟨o, q, _⟩ := hi; exact ⟨o, q⟩)
  exact ⟨_, _, μ, ρ, _, _, p, trivial, Itr.enum (its := xs) (m := m) (Nat.ne_of_gt (Nat.lt_succ_self _)), B', ⟨⟨_, he⟩, hi, hv _ _ ho, hs.mono hv (Sub.refl _)⟩, hn, Ext.keeps hk rfl rfl⟩
end
end
section
open PySem PySem.Spec PySem.Calls PyProof.Rows PySem.W

/-- A list, frozen or in a place. -/
inductive LstV (μ : List Cell) : AV → List AV → Prop
  | fro (l : List AV) : LstV μ (.lst l) l
  | loc {i : Nat} {l : List AV} (h : μ[i]? = some (.lst l)) : LstV μ (.loc i) l

section
variable {g : Gd} {n : Nat} {sc : Scope} {lm : Lm} {μ : List Cell} {P : AV → List Cell → Prop}

theorem LstV.at {a : AV} {l : List AV} (h : LstV μ a l) {H ρ : List Addr} {s : Shared} {v : Value} (B : Base g H μ ρ s) (r : RV (Vis H ρ s.heap) ρ a v) : ∃ x its m, v = .ref x ∧ IsL s.heap x its m ∧ RVs (Vis H ρ s.heap) ρ l its.toList := by
  cases h with
  | fro => cases r with
    | @lst _ a its m ho hs => exact ⟨a, its, m, rfl, ho.1, hs⟩
  | @loc i l h => cases r with
    | @loc _ a ha =>
      obtain ⟨a', ha', its, m, hI, hs⟩ := B.cellOf h
      rw [ha] at ha'; cases ha'
      exact ⟨a, its, m, rfl, hI, hs⟩

theorem subTail {prog : Program} {w : World} {A : Around} {E : Value → Shared → Prop} {s : Shared} {value slice : Expr} {o i : Value} {T id : String} {Q : Value → Shared → Prop} (hT : s.TypeIs o T) (hl : typeLookup (.type T) "__getitem__" = pure (some (.builtin id)))
    (h : wpAny (model prog w) A (getItem o i) Q E s) : wpAny (model prog w) A (subscriptTail value slice o i) Q E s := by
  unfold subscriptTail
  refine wpAny_bind ?_
  unfold getitemInPython
  refine wpAny_bind (wpAny_specialOf hT hl (wpAny_pure ?_))
  have key : ∀ vs, wpAny (model prog w) A (operate vs (getItem o i)) (fun r s' => wpAny (model prog w) A (do letTemporaryGo value o r; pure r) Q E s') E s := fun vs =>
    wpAny_operateT (wpAny_mono h (fun r s' hr => wpAny_bind (wpAny_letTemporaryGo (wpAny_pure hr))) fun _ _ x => x)
  refine wpAny_bind ?_
  unfold subscripted
  split
  · exact key _
  · rename_i heq; cases heq
  · exact key _

theorem SubV.tup {value slice : Expr} {l : List AV} {k : Int} {j : Nat} {a : AV} (hlo : -(2 ^ 63) ≤ k) (hhi : k < 2 ^ 63) (hj : seqIndex? k l.length = some j) (hx : l[j]? = some a) (p : P a μ) : SubV g n value slice (.tup l) (.int k) μ P := by
  intro A H ρ s va vb E hA B ra rb
  cases ra with
  | @tup _ x its m ho hs =>
  cases rb
  obtain ⟨v, hv, hr⟩ := hs.get hx
  have hsz : its.size = l.length := by rw [← hs.length]; simp
  refine subTail (T := "tuple") ⟨_, ho.1, rfl⟩ PySem.F.slot_tuple_getitem.lookup (PyProof.Rows.getItem_tuple ⟨_, ho.1, rfl, _, rfl⟩ hlo hhi (by rw [hsz]; exact hj) (by simpa using hv) ?_)
  exact .here p B (fun _ _ e => e) rfl rfl hr
theorem SubV.lst {value slice : Expr} {b : AV} {l : List AV} {k : Nat} {a : AV} (hl : LstV μ b l) (hk : (k : Int) < 2 ^ 63) (hx : l[k]? = some a) (p : P a μ) : SubV g n value slice b (.int k) μ P := by
  intro A H ρ s va vb E hA B ra rb
  obtain ⟨x, its, m, rfl, hI, hs⟩ := hl.at B ra
  cases rb
  obtain ⟨v, hv, hr⟩ := hs.get hx
  refine subTail (T := "list") ⟨_, hI, rfl⟩ slot_list_getitem.lookup (wpAny_getItem_list (IsL.isList hI) (by omega) hk (by simpa using hv) ?_)
  exact .here p B (fun _ _ e => e) rfl rfl hr

/- dicts -/
noncomputable def putA {κ : Type} [DecidableEq κ] (kvs : List (κ × AV)) (k : κ) (a : AV) : List (κ × AV) := if kvs.any (fun kv => kv.1 = k) then kvs.map (fun kv => if kv.1 = k then (kv.1, a) else kv) else kvs ++ [(k, a)]

section
variable {κ κ' : Type} [DecidableEq κ] [DecidableEq κ'] {e : κ → κ'} (he : ∀ a b, e a = e b → a = b) {V : Vw} {ρ : List Addr}
omit [DecidableEq κ] [DecidableEq κ'] in
theorem KvAt.app {R : κ → κ' → Prop} {k : κ} {k' : κ'} {a : AV} {v : Value} (hk : R k k') (hv : RV V ρ a v) : ∀ {l : List (κ × AV)} {l' : List (κ' × Value)}, KvAt R V ρ l l' → KvAt R V ρ (l ++ [(k, a)]) (l' ++ [(k', v)])
  | [], [], _ => ⟨hk, hv, trivial⟩
  | (_, _) :: _, (_, _) :: _, ⟨h1, h2, h3⟩ => ⟨h1, h2, KvAt.app hk hv h3⟩
  | [], _ :: _, h => h.elim
  | _ :: _, [], h => h.elim
include he
theorem KvAt.find : ∀ {l : List (κ × AV)} {l' : List (κ' × Value)}, KvAt (fun k k' => e k = k') V ρ l l' → ∀ k, match getA l k with | some a => ∃ v, valueAt l' (e k) = some v ∧ RV V ρ a v | none => valueAt l' (e k) = none
  | [], [], _, k => rfl
  | (k₀, a) :: l, (k', v) :: l', ⟨h1, h2, h3⟩, k => by
    subst h1
    by_cases q : k₀ = k
    · subst q
      simp only [getA, List.find?_cons, decide_true, Option.map_some]
      exact ⟨v, by simp [valueAt], h2⟩
    · have q' : ¬ e k₀ = e k := fun z => q (he _ _ z)
      have := KvAt.find h3 k
      simp only [getA, List.find?_cons, q, decide_false, valueAt, q'] at this ⊢
      exact this
  | [], _ :: _, h, _ => h.elim
  | _ :: _, [], h, _ => h.elim
theorem KvAt.any : ∀ {l : List (κ × AV)} {l' : List (κ' × Value)}, KvAt (fun k k' => e k = k') V ρ l l' → ∀ k, l'.any (fun kv => kv.1 = e k) = l.any (fun kv => kv.1 = k)
  | [], [], _, k => rfl
  | (k₀, a) :: l, (k', v) :: l', ⟨h1, h2, h3⟩, k => by
    subst h1
    simp only [List.any_cons]
    rw [KvAt.any h3 k]
    by_cases q : k₀ = k
    · subst q; simp
    · have q' : ¬ e k₀ = e k := fun z => q (he _ _ z)
      simp [q, q']
  | [], _ :: _, h, _ => h.elim
  | _ :: _, [], h, _ => h.elim
theorem KvAt.rep {k : κ} {a : AV} {v : Value} (hv : RV V ρ a v) : ∀ {l : List (κ × AV)} {l' : List (κ' × Value)}, KvAt (fun k k' => e k = k') V ρ l l' →
    KvAt (fun k k' => e k = k') V ρ (l.map fun kv => if kv.1 = k then (kv.1, a) else kv) (l'.map fun kv => if kv.1 = e k then (kv.1, v) else kv)
  | [], [], _ => trivial
  | (k₀, b) :: l, (k', u) :: l', ⟨h1, h2, h3⟩ => by
    subst h1
    simp only [List.map_cons]
    by_cases q : k₀ = k
    · subst q; simp only [if_true]; exact ⟨rfl, hv, KvAt.rep hv h3⟩
    · have q' : ¬ e k₀ = e k := fun z => q (he _ _ z)
      simp only [q, q', if_false]; exact ⟨rfl, h2, KvAt.rep hv h3⟩
  | [], _ :: _, h => h.elim
  | _ :: _, [], h => h.elim
theorem KvAt.put {k : κ} {a : AV} {v : Value} (hv : RV V ρ a v) {l : List (κ × AV)} {l' : List (κ' × Value)} (h : KvAt (fun k k' => e k = k') V ρ l l') : KvAt (fun k k' => e k = k') V ρ (putA l k a) (stored l' (e k) v) := by
  unfold putA stored
  rw [KvAt.any he h k]
  split
  · exact KvAt.rep he hv h
  · exact KvAt.app (R := fun k k' => e k = k') rfl hv h
end

theorem intKey {H ρ : List Addr} {h : Heap} {k : Int} {v : Value} (r : RV (Vis H ρ h) ρ (.int k) v) : (intKind g.prog g.w).is k v = true := by
  cases r; simp [intKind, Value.isInt]

theorem SubV.dI {value slice : Expr} {i : Nat} {kvs : List (Int × AV)} {ep : Nat} {k : Int} {a : AV} (hi : μ[i]? = some (.dI kvs ep)) (hx : getA kvs k = some a) (p : P a μ) : SubV g n value slice (.loc i) (.int k) μ P := by
  intro A H ρ s va vb E hA B ra rb
  cases ra with
  | @loc _ x hx' =>
  obtain ⟨x', h', kv', hD, hkv⟩ := B.cellOf hi
  rw [hx'] at h'; cases h'
  have := KvAt.find (e := fun k => k) (fun _ _ q => q) hkv k
  rw [hx] at this
  obtain ⟨v, hv, hr⟩ := this
  refine subTail (T := "dict") hD.dictOf.typeIs slot_dict_getitem.lookup (wpAny_getItem_of (knd := intKind g.prog g.w) (intKey rb) hD.dictOf.mapOf hv ?_)
  exact .here p B (fun _ _ e => e) rfl rfl hr
theorem SubV.dS {value slice : Expr} {i : Nat} {kvs : List (String × AV)} {k : String} {a : AV} (hi : μ[i]? = some (.dS kvs)) (hx : getA kvs k = some a) (p : P a μ) : SubV g n value slice (.loc i) (.str k) μ P := by
  intro A H ρ s va vb E hA B ra rb
  cases ra with
  | @loc _ x hx' =>
  cases rb
  obtain ⟨x', h', kv', hD, hkv⟩ := B.cellOf hi
  rw [hx'] at h'; cases h'
  have := KvAt.find (e := Str.ofString) (fun _ _ q => ofS_inj q) hkv k
  rw [hx] at this
  obtain ⟨v, hv, hr⟩ := this
  refine subTail (T := "dict") hD.typeIs slot_dict_getitem.lookup (wpAny_getItem_of (knd := strKind g.prog g.w) (strKind_is _ _ _ _) hD.mapOf hv ?_)
  exact .here p B (fun _ _ e => e) rfl rfl hr

/-- `x[i] = v` -/
noncomputable def SetV (g : Gd) (n : Nat) (a b c : AV) (μ : List Cell) (Q : List Cell → Prop) : Prop :=
  ∀ (A : Around) (H ρ : List Addr) (s : Shared) (va vb vc : Value) (E : Value → Shared → Prop), OkA n A → Base g H μ ρ s → RV (Vis H ρ s.heap) ρ a va → RV (Vis H ρ s.heap) ρ b vb → RV (Vis H ρ s.heap) ρ c vc →
    wpAny (model g.prog g.w) A (setItem va vb vc) (fun _ s' => ∃ μ' ρ', Q μ' ∧ Base g H μ' ρ' s' ∧ Ext [] ρ ρ' s s') E s
theorem Ex.assignSub {o i value : Expr} {p pos : Pos} {Q : Fl → Lm → List Cell → Prop} (h : Ev g n sc value lm μ fun c μ₁ => Ev g n sc o lm μ₁ fun a μ₂ => Ev g n sc i lm μ₂ fun b μ₃ => SetV g n a b c μ₃ fun μ₄ => Q .next lm μ₄)
    (hs : ∀ env, swapsWith value (some (.Subscript o i p)) pos.line env = pure false := by intro _; rfl) : Ex g n sc (.Assign [.Subscript o i p] value pos) lm μ Q := by
  intro A env H ρ s E hA O Fn B F
  refine wpAny_Assign_Subscript (wpAny_mono (h A env H ρ s E hA O B F) ?_ fun _ _ x => x) (hs env)
  rintro vc s₁ ⟨c, μ₁, ρ₁, h₁, B₁, x₁, r₁⟩
  refine wpAny_mono (h₁ A env H ρ₁ s₁ E hA O B₁ (F.ext0 B O x₁)) ?_ fun _ _ x => x
  rintro va s₂ ⟨a, μ₂, ρ₂, h₂, B₂, x₂, r₂⟩
  have x12 := x₁.trans x₂
  refine wpAny_mono (h₂ A env H ρ₂ s₂ E hA O B₂ (F.ext0 B O x12)) ?_ fun _ _ x => x
  rintro vb s₃ ⟨b, μ₃, ρ₃, h₃, B₃, x₃, r₃⟩
  refine wpAny_mono (h₃ A H ρ₃ s₃ va vb vc E hA B₃ (x₃.rv0 r₂) r₃ ((x₂.trans x₃).rv0 r₁)) ?_ fun _ _ x => x
  rintro _ s₄ ⟨μ₄, ρ₄, q, B₄, x₄⟩
  have x := (x12.trans x₃).trans x₄
  exact ⟨.next, lm, μ₄, ρ₄, q, B₄, F.ext0 B O x, x.own B O, trivial⟩

theorem set_ext {H ρ : List Addr} {s : Shared} {h' : Heap} {tk : Tok} {i : Nat} {x : Addr} (_B : Base g H μ ρ s) (hx : ρ[i]? = some x) (hs : Heap.SameBut x s.heap h') : Ext [] ρ ρ s { s with heap := h', toks := tk } :=
  Ext.set hx (fun b _ hb e => (hs.2 b hb).trans e) rfl rfl
/-- what one reads does not lie in a place that changes -/
theorem set_vis {H ρ : List Addr} {s : Shared} {h' : Heap} {i : Nat} {x : Addr} (hx : ρ[i]? = some x) (hs : Heap.SameBut x s.heap h') : ∀ a o, Vis H ρ s.heap a o → Vis H ρ h' a o :=
  fun a _ z => ⟨(hs.2 a fun q => z.2.2 (q ▸ List.mem_of_getElem? hx)).trans z.1, z.2⟩

theorem SetV.dI {i : Nat} {kvs : List (Int × AV)} {ep : Nat} {k : Int} {c : AV} {Q : List Cell → Prop} (hi : μ[i]? = some (.dI kvs ep)) (hsz : kvs.length ≤ sizeLine) (q : ∀ ep', Q (μ.set i (.dI (putA kvs k c) ep'))) : SetV g n (.loc i) (.int k) c μ Q := by
  intro A H ρ s va vb vc E hA B ra rb rc
  cases ra with
  | @loc _ x hx =>
  obtain ⟨x', h', kv', hD, hkv⟩ := B.cellOf hi
  rw [hx] at h'; cases h'
  refine wpAny_setItem_pairs (hsz := by rw [← hkv.length]; exact hsz) (intKey rb) hD.dictOf fun h₁ hD₁ hs₁ => ?_
  obtain ⟨ep', hD₂⟩ := hD₁.dictAt
  have hv := set_vis (H := H) hx hs₁
  exact ⟨_, ρ, q ep', B.set hx (fun b _ hb e => (hs₁.2 b hb).trans e) ⟨_, hD₂, KvAt.put (e := fun k => k) (fun _ _ q => q) (rc.mono hv (Sub.refl _)) (hkv.mono hv (Sub.refl _))⟩, set_ext B hx hs₁⟩
theorem SetV.dS {i : Nat} {kvs : List (String × AV)} {k : String} {c : AV} {Q : List Cell → Prop} (hi : μ[i]? = some (.dS kvs)) (hsz : kvs.length ≤ sizeLine) (q : Q (μ.set i (.dS (putA kvs k c)))) : SetV g n (.loc i) (.str k) c μ Q := by
  intro A H ρ s va vb vc E hA B ra rb rc
  cases ra with
  | @loc _ x hx =>
  cases rb
  obtain ⟨x', h', kv', hD, hkv⟩ := B.cellOf hi
  rw [hx] at h'; cases h'
  refine wpAny_setItem_pairs (knd := strKind g.prog g.w) (hsz := by rw [← hkv.length]; exact hsz) (strKind_is _ _ _ _) hD fun h₁ hD₁ hs₁ => ?_
  have hv := set_vis (H := H) hx hs₁
  exact ⟨_, ρ, q, B.set hx (fun b _ hb e => (hs₁.2 b hb).trans e) ⟨_, hD₁, KvAt.put (e := Str.ofString) (fun _ _ q => ofS_inj q) (rc.mono hv (Sub.refl _)) (hkv.mono hv (Sub.refl _))⟩, set_ext B hx hs₁⟩
theorem SetV.lst {i : Nat} {l : List AV} {k : Nat} {c : AV} {Q : List Cell → Prop} (hi : μ[i]? = some (.lst l)) (hk : k < l.length) (hk' : (k : Int) < 2 ^ 63) (q : Q (μ.set i (.lst (l.set k c)))) : SetV g n (.loc i) (.int k) c μ Q := by
  intro A H ρ s va vb vc E hA B ra rb rc
  cases ra with
  | @loc _ x hx =>
  cases rb
  obtain ⟨x', h', its, m, hI, hs⟩ := B.cellOf hi
  rw [hx] at h'; cases h'
  have hsz : its.size = l.length := by rw [← hs.length]; simp
  refine ki_setAt (n := m) hI (by omega) hk' (by rw [hsz]; omega) ?_
  have hs₁ : Heap.SameBut x s.heap (s.heap.update x (Obj.mapSeq (·.setIfInBounds (k : Int).toNat vc))) := Heap.SameBut.update ..
  have hv := set_vis (H := H) hx hs₁
  refine ⟨_, ρ, q, B.set hx (fun b _ hb e => (hs₁.2 b hb).trans e) ⟨_, _, IsL.update hI _, ?_⟩, Ext.set hx (fun b _ hb e => (hs₁.2 b hb).trans e) rfl rfl⟩
  simp only [Int.toNat_natCast, Array.toList_setIfInBounds]
  exact (hs.mono hv (Sub.refl _)).set (rc.mono hv (Sub.refl _))

/- methods of lists and dicts -/
theorem MethV.list {x : Str} {id : String} {i : Nat} {l : List AV} (slot : Slot "list" x id) (hty : typeOf (.builtin id) = pure (.type "method_descriptor")) (hi : μ[i]? = some (.lst l)) : MethV g n x (.loc i) (.builtin id) μ := by
  intro A H ρ s va pl E hA B r
  cases r with
  | @loc _ a ha =>
  obtain ⟨x', h', its, m, hI, hs⟩ := B.cellOf hi
  rw [ha] at h'; cases h'
  exact getMethod_builtin ⟨_, hI, rfl⟩ PySem.F.plainAttrs_list slot hty (fun a e => by cases e; exact ⟨_, hI, rfl⟩) ⟨rfl, rfl, rfl, rfl⟩
theorem MethV.dI {x : Str} {id : String} {i : Nat} {kvs : List (Int × AV)} {ep : Nat} (slot : Slot "dict" x id) (hty : typeOf (.builtin id) = pure (.type "method_descriptor")) (hi : μ[i]? = some (.dI kvs ep)) : MethV g n x (.loc i) (.builtin id) μ := by
  intro A H ρ s va pl E hA B r
  cases r with
  | @loc _ a ha =>
  obtain ⟨x', h', kv', hD, hkv⟩ := B.cellOf hi
  rw [ha] at h'; cases h'
  exact getMethod_builtin hD.dictOf.typeIs PySem.F.plainAttrs_dict slot hty hD.dictOf.mapOf.noDict ⟨rfl, rfl, rfl, rfl⟩

theorem Call.append {i : Nat} {l : List AV} {a : AV} (hi : μ[i]? = some (.lst l)) (hsz : l.length ≤ sizeLine) (p : P .none (μ.set i (.lst (l ++ [a])))) : Call g n (.builtin "list.append") [.loc i, a] μ P := by
  intro A H ρ s vs E hA B r
  cases r with
  | cons h1 r =>
  cases r with
  | cons h2 r =>
  cases r
  cases h1 with
  | @loc _ x hx =>
  obtain ⟨x', h', its, m, hI, hs⟩ := B.cellOf hi
  rw [hx] at h'; cases h'
  have hz : its.size = l.length := by rw [← hs.length]; simp
  refine wpAny_list_append_plain (hsz := by rw [hz]; exact hsz) ⟨m, hI⟩ fun h₁ hl₁ hs₁ => ?_
  obtain ⟨m', hl₁⟩ := hl₁
  have hv := set_vis (H := H) hx hs₁
  refine ⟨.none, _, ρ, p, B.set hx (fun b _ hb e => (hs₁.2 b hb).trans e) ⟨_, _, hl₁, ?_⟩, Ext.set hx (fun b _ hb e => (hs₁.2 b hb).trans e) rfl rfl, .none⟩
  rw [Array.toList_push]
  exact (hs.mono hv (Sub.refl _)).snoc (h2.mono hv (Sub.refl _))
theorem Call.pop {i : Nat} {l : List AV} {a : AV} (hi : μ[i]? = some (.lst (l ++ [a]))) (hsz : l.length < sizeLine) (p : P a (μ.set i (.lst l))) : Call g n (.builtin "list.pop") [.loc i] μ P := by
  intro A H ρ s vs E hA B r
  cases r with
  | cons h1 r =>
  cases r
  cases h1 with
  | @loc _ x hx =>
  obtain ⟨x', h', its, m, hI, hs⟩ := B.cellOf hi
  rw [hx] at h'; cases h'
  have hz : its.size = l.length + 1 := by have := hs.length; simp at this; exact this
  obtain ⟨v, hv', hr⟩ := hs.get (i := l.length) (x := a) (by simp)
  have hy : its[its.size - 1]? = some v := by rw [hz]; simpa using hv'
  refine call_meets F.slot_list_pop ⟨_, hI, rfl⟩ F.entry_list_pop (F.args_list_pop_1 _) (PySem.MeetsSeq.list_pop_last x its m v hy (by rw [hz]; exact hsz)) ⟨hI, ?_⟩
  have hs₁ : Heap.SameBut x s.heap (s.heap.update x (Obj.mapSeq fun xs => xs.eraseIdxIfInBounds (its.size - 1))) := Heap.SameBut.update ..
  have hv := set_vis (H := H) hx hs₁
  refine ⟨a, _, ρ, p, B.set hx (fun b _ hb e => (hs₁.2 b hb).trans e) ⟨_, _, IsL.update hI _, ?_⟩, Ext.set hx (fun b _ hb e => (hs₁.2 b hb).trans e) rfl rfl, hr.mono hv (Sub.refl _)⟩
  have e1 : (its.eraseIdxIfInBounds (its.size - 1)).toList = its.toList.take l.length := by
    rw [Array.toList_eraseIdxIfInBounds, hz]
    rw [List.eraseIdx_eq_take_drop_succ, List.drop_eq_nil_of_le (by simp; omega)]
    simp
  rw [e1]
  have := (hs.mono hv (Sub.refl _)).take l.length
  rwa [List.take_left'] at this
  rfl
theorem Call.getI {i : Nat} {kvs : List (Int × AV)} {ep : Nat} {k : Int} {d : AV} (hi : μ[i]? = some (.dI kvs ep)) (p : P ((getA kvs k).getD d) μ) : Call g n (.builtin "dict.get") [.loc i, .int k, d] μ P := by
  intro A H ρ s vs E hA B r
  cases r with
  | cons h1 r =>
  cases r with
  | cons h2 r =>
  cases r with
  | cons h3 r =>
  cases r
  cases h1 with
  | @loc _ x hx =>
  obtain ⟨x', h', kv', hD, hkv⟩ := B.cellOf hi
  rw [hx] at h'; cases h'
  have hf := KvAt.find (e := fun k => k) (fun _ _ q => q) hkv k
  refine call_meetsIn PySem.F.slot_dict_get hD.dictOf.typeIs PySem.F.entry_dict_get (PySem.F.args_dict_get_3 _ _ _) (meets_dict_get_default (intKind g.prog g.w) x (intKey h2) (B.sys x (List.mem_of_getElem? hx)) _) ⟨_, hD.dictOf.mapOf, ?_⟩
  refine .here p B (fun _ _ e => e) rfl rfl ?_
  cases q : getA kvs k with
  | none =>
    rw [q] at hf
    rw [show valueAt kv' k = none from hf]; exact h3
  | some a =>
    rw [q] at hf
    obtain ⟨v, hv, hr⟩ := hf
    rw [show valueAt kv' k = some v from hv]; exact hr
end
end
section
open PySem PySem.Spec PySem.Calls PyProof.Rows PySem.W PySem.SeqAt

/-- data without places, at most so deep -/
noncomputable def datD : Nat → AV → Prop
  | _, .int _ => True
  | _, .none => True
  | d + 1, .tup l => ∀ a ∈ l, datD d a
  | d + 1, .lst l => ∀ a ∈ l, datD d a
  | _, _ => False
noncomputable def eqL (f : AV → AV → Bool) (l m : List AV) : Bool := l.length == m.length && (List.range l.length).all fun j => f (l.getD j .none) (m.getD j .none)
noncomputable def beqA : Nat → AV → AV → Bool
  | _, .int i, .int j => i == j
  | _, .none, .none => true
  | d + 1, .tup l, .tup m => eqL (beqA d) l m
  | d + 1, .lst l, .lst m => eqL (beqA d) l m
  | _, _, _ => false

theorem getD_at {α : Type} {l : List α} {j : Nat} {d : α} (hj : j < l.length) : l.getD j d = l[j] := by simp [List.getD_eq_getElem?_getD, hj]
theorem eqL_iff {f : AV → AV → Bool} {l m : List AV} (hf : ∀ a ∈ l, ∀ b ∈ m, f a b = true ↔ a = b) : eqL f l m = true ↔ l = m := by
  unfold eqL
  rw [Bool.and_eq_true, beq_iff_eq, List.all_eq_true]
  constructor
  · rintro ⟨h1, h2⟩
    refine List.ext_getElem h1 fun j hj hj' => ?_
    have := h2 j (List.mem_range.mpr hj)
    rw [getD_at hj, getD_at hj'] at this
    exact (hf _ (List.getElem_mem hj) _ (List.getElem_mem hj')).mp this
  · rintro rfl
    refine ⟨rfl, fun j hj => ?_⟩
    have hj := List.mem_range.mp hj
    rw [getD_at hj]
    exact (hf _ (List.getElem_mem hj) _ (List.getElem_mem hj)).mpr rfl
theorem beqA_iff : ∀ (d : Nat) (a b : AV), datD d a → datD d b → (beqA d a b = true ↔ a = b) := by
  intro d
  induction d with
  | zero =>
    intro a b ha hb
    cases a <;> cases b <;> simp_all [datD, beqA]
  | succ d ih =>
    intro a b ha hb
    cases a with
    | tup l => cases b with
      | tup m =>
        simp only [datD] at ha hb
        simp only [beqA, AV.tup.injEq]
        exact eqL_iff fun x hx y hy => ih x y (ha x hx) (hb y hy)
      | _ => simp_all [datD, beqA]
    | lst l => cases b with
      | lst m =>
        simp only [datD] at ha hb
        simp only [beqA, AV.lst.injEq]
        exact eqL_iff fun x hx y hy => ih x y (ha x hx) (hb y hy)
      | _ => simp_all [datD, beqA]
    | _ => cases b <;> simp_all [datD, beqA]

/-- what a value reads as is one thing -/
theorem RV.det {V : Vw} {ρ : List Addr} (hV : ∀ a o o', V a o → V a o' → o = o') : ∀ (d : Nat) {a b : AV} {v : Value}, datD d a → datD d b → RV V ρ a v → RV V ρ b v → a = b := by
  intro d
  induction d with
  | zero =>
    intro a b v ha hb ra rb
    cases a <;> simp only [datD] at ha <;> cases b <;> simp only [datD] at hb <;> cases ra <;> cases rb <;> rfl
  | succ d ih =>
    have key : ∀ {l m : List AV} {vs : List Value}, (∀ a ∈ l, datD d a) → (∀ a ∈ m, datD d a) → RVs V ρ l vs → RVs V ρ m vs → l = m := by
      intro l
      induction l with
      | nil =>
        intro m vs _ _ r1 r2
        cases r1
        cases r2; rfl
      | cons a l ihl =>
        intro m vs h1 h2 r1 r2
        cases r1 with
        | cons q1 r1 =>
        cases r2 with
        | cons q2 r2 =>
        rw [ih (h1 _ List.mem_cons_self) (h2 _ List.mem_cons_self) q1 q2, ihl (fun x hx => h1 x (List.mem_cons_of_mem _ hx)) (fun x hx => h2 x (List.mem_cons_of_mem _ hx)) r1 r2]
    intro a b v ha hb ra rb
    cases ra with
    | int => cases rb <;> first | rfl | (simp only [datD] at hb)
    | none => cases rb <;> first | rfl | (simp only [datD] at hb)
    | @tup l x its m ho hs =>
      cases rb with
      | @tup l' _ its' m' ho' hs' =>
        have := hV _ _ _ ho ho'
        simp only [Obj.mk.injEq, Data.seq.injEq] at this
        obtain ⟨_, _, ⟨rfl, _⟩, _⟩ := this
        simp only [datD] at ha hb
        rw [key ha hb hs hs']
      | @lst l' _ its' m' ho' hs' =>
        have := hV _ _ _ ho ho'
        simp at this
      | _ => simp only [datD] at hb
    | @lst l x its m ho hs =>
      cases rb with
      | @lst l' _ its' m' ho' hs' =>
        have := hV _ _ _ ho ho'
        simp only [Obj.mk.injEq, Data.seq.injEq] at this
        obtain ⟨_, _, ⟨rfl, _⟩, _⟩ := this
        simp only [datD] at ha hb
        rw [key ha hb hs hs']
      | @tup l' _ its' m' ho' hs' =>
        have := hV _ _ _ ho ho'
        simp at this
      | _ => simp only [datD] at hb
    | _ => simp only [datD] at ha
theorem Vis.det {H ρ : List Addr} {h : Heap} : ∀ a o o', Vis H ρ h a o → Vis H ρ h a o' → o = o' := fun _ _ _ x y => Option.some.inj (x.1.symm.trans y.1)

section
variable {g : Gd} {n : Nat} {sc : Scope} {lm : Lm} {μ : List Cell} {P : AV → List Cell → Prop}

theorem OkA.up {n : Nat} {A : Around} (h : OkA (n + 1) A) : OkA n A := h.le (Nat.le_succ n)

theorem all_eqL {f : AV → AV → Bool} {l m : List AV} {k : Nat} (hk : l.length = k) (hlm : l.length = m.length) : ((List.range k).all fun j => f (l.getD j .none) (m.getD j .none)) = eqL f l m := by
  subst hk
  unfold eqL
  rw [hlm]
  simp

/-- the values' equality -/
theorem eqAt : ∀ (d : Nat) {A : Around} {H ρ : List Addr} {s : Shared} {a b : AV} {va vb : Value}, OkA d A → datD d a → datD d b → RV (Vis H ρ s.heap) ρ a va → RV (Vis H ρ s.heap) ρ b vb → EqAt A s va vb (beqA d a b) := by
  intro d
  induction d with
  | zero =>
    intro A H ρ s a b va vb hA ha hb ra rb
    cases a <;> simp only [datD] at ha <;> cases b <;> simp only [datD] at hb <;> cases ra <;> cases rb
    · exact EqAt.int_int _ _ _ _
    · exact EqAt.int_none _ _
    · exact EqAt.none_int _ _
    · exact EqAt.same _
  | succ d ih =>
    intro A H ρ s a b va vb hA ha hb ra rb
    by_cases hv : va = vb
    · subst hv
      rw [(beqA_iff (d + 1) a b ha hb).mpr (RV.det Vis.det (d + 1) ha hb ra rb)]
      exact EqAt.same _
    have lists : ∀ {l m : List AV} {xs ys : Array Value}, (∀ a ∈ l, datD d a) → (∀ a ∈ m, datD d a) → RVs (Vis H ρ s.heap) ρ l xs.toList → RVs (Vis H ρ s.heap) ρ m ys.toList →
        ∀ j (h1 : j < xs.size) (h2 : j < ys.size), EqAt A.in1 s xs[j] ys[j] (beqA d (l.getD j .none) (m.getD j .none)) := by
      intro l m xs ys hl hm r1 r2 j h1 h2
      obtain ⟨p, hp, rp⟩ := r1.get' (i := j) (v := xs[j]) (by simp [h1])
      obtain ⟨q, hq, rq⟩ := r2.get' (i := j) (v := ys[j]) (by simp [h2])
      rw [List.getD_eq_getElem?_getD, List.getD_eq_getElem?_getD, hp, hq]
      exact ih hA.in1 (hl p (List.mem_of_getElem? hp)) (hm q (List.mem_of_getElem? hq)) rp rq
    cases ra with
    | int => cases rb with
      | int => exact EqAt.int_int _ _ _ _
      | none => exact EqAt.int_none _ _
      | tup ho hs => exact EqAt.int_tuple _ _ ⟨_, ho.1, rfl, _, rfl⟩ hA.cl
      | lst ho hs => exact EqAt.int_list _ _ ⟨_, ho.1, rfl, _, rfl⟩ hA.cl
      | _ => simp only [datD] at hb
    | none => cases rb with
      | int => exact EqAt.none_int _ _
      | none => exact EqAt.same _
      | tup ho hs => exact EqAt.none_tuple ⟨_, ho.1, rfl, _, rfl⟩ hA.cl
      | lst ho hs => exact EqAt.none_list ⟨_, ho.1, rfl, _, rfl⟩ hA.cl
      | _ => simp only [datD] at hb
    | @tup l x its m ho hs => cases rb with
      | int => exact EqAt.tuple_int _ _ ⟨_, ho.1, rfl, _, rfl⟩ hA.cl
      | none => exact EqAt.tuple_none ⟨_, ho.1, rfl, _, rfl⟩ hA.cl
      | @tup l' x' its' m' ho' hs' =>
        simp only [datD] at ha hb
        have hz := hs.length
        have hz' := hs'.length
        simp at hz hz'
        have := RcAt.tuples (A := A) (e := fun j => beqA d (l.getD j .none) (l'.getD j .none)) ⟨_, ho.1, rfl, _, rfl⟩ ⟨_, ho'.1, rfl, _, rfl⟩ hA.cl (lists ha hb hs hs')
        refine EqAt.of_refs (fun q => hv (by rw [q])) ?_
        have e : beqA (d + 1) (.tup l) (.tup l') = ((List.range (min its.size its'.size)).all (fun j => beqA d (l.getD j .none) (l'.getD j .none)) && its.size == its'.size) := by
          simp only [beqA, eqL]
          rw [hz, hz']
          by_cases q : l.length = l'.length
          · rw [q]; simp
          · have : (l.length == l'.length) = false := by simpa using q
            rw [this]; simp
        rw [e]; exact this
      | @lst l' x' its' m' ho' hs' => exact EqAt.tuple_list ⟨_, ho.1, rfl, _, rfl⟩ ⟨_, ho'.1, rfl, _, rfl⟩ hA.cl
      | _ => simp only [datD] at hb
    | @lst l x its m ho hs => cases rb with
      | int => exact EqAt.list_int _ _ ⟨_, ho.1, rfl, _, rfl⟩ hA.cl
      | none => exact EqAt.list_none ⟨_, ho.1, rfl, _, rfl⟩ hA.cl
      | @lst l' x' its' m' ho' hs' =>
        simp only [datD] at ha hb
        have hz := hs.length
        have hz' := hs'.length
        simp at hz hz'
        refine EqAt.of_refs (fun q => hv (by rw [q])) ?_
        by_cases q : l.length = l'.length
        · have := RcAt.lists (A := A) (e := fun j => beqA d (l.getD j .none) (l'.getD j .none)) ⟨_, ho.1, rfl, _, rfl⟩ ⟨_, ho'.1, rfl, _, rfl⟩ (by rw [hz, hz', q]) hA.cl (lists ha hb hs hs')
          rw [all_eqL hz.symm q] at this
          exact this
        · have := RcAt.lists_lengths (A := A) (s := s) (l := x) (b := x') (items := its) (items2 := its') ⟨_, ho.1, rfl, _, rfl⟩ ⟨_, ho'.1, rfl, _, rfl⟩ (by rw [hz, hz']; simpa using q) hA.cl
          have e : beqA (d + 1) (.lst l) (.lst l') = false := by
            simp only [beqA, eqL]
            have : (l.length == l'.length) = false := by simpa using q
            rw [this]; simp
          rw [e]; exact this
      | @tup l' x' its' m' ho' hs' => exact EqAt.list_tuple ⟨_, ho.1, rfl, _, rfl⟩ ⟨_, ho'.1, rfl, _, rfl⟩ hA.cl
      | _ => simp only [datD] at hb
    | _ => simp only [datD] at ha
end
end
section
open PySem PySem.Spec PySem.Calls PyProof.Rows PySem.W PySem.SeqAt

section
variable {g : Gd} {n : Nat} {sc : Scope} {lm : Lm} {μ : List Cell} {P : AV → List Cell → Prop}

/- comparisons -/
theorem eqLists {d : Nat} {A : Around} {H ρ : List Addr} {s : Shared} {l m : List AV} {xs ys : Array Value} (hA : OkA (d + 1) A) (hl : ∀ a ∈ l, datD d a) (hm : ∀ a ∈ m, datD d a) (r1 : RVs (Vis H ρ s.heap) ρ l xs.toList) (r2 : RVs (Vis H ρ s.heap) ρ m ys.toList) :
    ∀ j (h1 : j < xs.size) (h2 : j < ys.size), EqAt A.in1 s xs[j] ys[j] (beqA d (l.getD j .none) (m.getD j .none)) := by
  intro j h1 h2
  obtain ⟨p, hp, rp⟩ := r1.get' (i := j) (v := xs[j]) (by simp [h1])
  obtain ⟨q, hq, rq⟩ := r2.get' (i := j) (v := ys[j]) (by simp [h2])
  rw [List.getD_eq_getElem?_getD, List.getD_eq_getElem?_getD, hp, hq]
  exact eqAt d hA.in1 (hl p (List.mem_of_getElem? hp)) (hm q (List.mem_of_getElem? hq)) rp rq

theorem CmpV.eqLst (d : Nat) {a b : AV} {l m : List AV} (hn : d + 1 ≤ n) (la : LstV μ a l) (lb : LstV μ b m) (hl : ∀ a ∈ l, datD d a) (hm : ∀ a ∈ m, datD d a) (p : ∀ r : Bool, (r = true ↔ l = m) → P (.bool r) μ) : CmpV g n .Eq a b μ P := by
  intro A H ρ s va vb E hA B ra rb
  obtain ⟨x, xs, k, rfl, hx, hs⟩ := la.at B ra
  obtain ⟨y, ys, k', rfl, hy, hs'⟩ := lb.at B rb
  have hz := hs.length
  have hz' := hs'.length
  simp at hz hz'
  have hA' := hA.le hn
  by_cases q : l.length = m.length
  · have e := all_eqL (f := beqA d) (l := l) (m := m) hz.symm q
    refine RcAt.lists (A := A) (e := fun j => beqA d (l.getD j .none) (m.getD j .none)) (IsL.isList hx) (IsL.isList hy) (by rw [hz, hz', q]) hA.cl (eqLists hA' hl hm hs hs') _ _ _ _ ?_
    rw [e]
    exact .here (p _ (eqL_iff fun a ha b hb => beqA_iff d a b (hl a ha) (hm b hb))) B (fun _ _ e => e) rfl rfl (.bool _)
  · refine RcAt.lists_lengths (A := A) (IsL.isList hx) (IsL.isList hy) (by rw [hz, hz']; simpa using q) hA.cl _ _ _ _ ?_
    exact .here (p false ⟨fun h => (nomatch h), fun h => absurd (by rw [h]) q⟩) B (fun _ _ e => e) rfl rfl (.bool _)
theorem CmpV.neLst (d : Nat) {a b : AV} {l m : List AV} (hn : d + 1 ≤ n) (la : LstV μ a l) (lb : LstV μ b m) (hl : ∀ a ∈ l, datD d a) (hm : ∀ a ∈ m, datD d a) (p : ∀ r : Bool, (r = false ↔ l = m) → P (.bool r) μ) : CmpV g n .NotEq a b μ P := by
  intro A H ρ s va vb E hA B ra rb
  obtain ⟨x, xs, k, rfl, hx, hs⟩ := la.at B ra
  obtain ⟨y, ys, k', rfl, hy, hs'⟩ := lb.at B rb
  have hz := hs.length
  have hz' := hs'.length
  simp at hz hz'
  have hA' := hA.le hn
  by_cases q : l.length = m.length
  · have e := all_eqL (f := beqA d) (l := l) (m := m) hz.symm q
    refine RcNeAt.lists (A := A) (e := fun j => beqA d (l.getD j .none) (m.getD j .none)) (IsL.isList hx) (IsL.isList hy) (by rw [hz, hz', q]) hA.cl (eqLists hA' hl hm hs hs') _ _ _ _ ?_
    rw [e]
    refine .here (p _ ?_) B (fun _ _ e => e) rfl rfl (.bool _)
    rw [← eqL_iff (f := beqA d) fun a ha b hb => beqA_iff d a b (hl a ha) (hm b hb)]
    cases eqL (beqA d) l m <;> simp
  · refine RcNeAt.lists_lengths (A := A) (IsL.isList hx) (IsL.isList hy) (by rw [hz, hz']; simpa using q) hA.cl _ _ _ _ ?_
    exact .here (p true ⟨fun h => (nomatch h), fun h => absurd (by rw [h]) q⟩) B (fun _ _ e => e) rfl rfl (.bool _)
theorem CmpV.eqTup (d : Nat) {l m : List AV} (hn : d + 1 ≤ n) (hl : ∀ a ∈ l, datD d a) (hm : ∀ a ∈ m, datD d a) (p : ∀ r : Bool, (r = true ↔ l = m) → P (.bool r) μ) : CmpV g n .Eq (.tup l) (.tup m) μ P := by
  intro A H ρ s va vb E hA B ra rb
  cases ra with
  | @tup _ x xs k hx hs =>
  cases rb with
  | @tup _ y ys k' hy hs' =>
  have hz := hs.length
  have hz' := hs'.length
  simp at hz hz'
  refine RcAt.tuples (A := A) (e := fun j => beqA d (l.getD j .none) (m.getD j .none)) ⟨_, hx.1, rfl, _, rfl⟩ ⟨_, hy.1, rfl, _, rfl⟩ hA.cl (eqLists (hA.le hn) hl hm hs hs') _ _ _ _ ?_
  refine .here (p _ ?_) B (fun _ _ e => e) rfl rfl (.bool _)
  rw [← eqL_iff (f := beqA d) fun a ha b hb => beqA_iff d a b (hl a ha) (hm b hb)]
  unfold eqL
  rw [hz, hz']
  by_cases q : l.length = m.length
  · rw [q]; simp
  · have : (l.length == m.length) = false := by simpa using q
    rw [this]; simp
theorem CmpV.neTup (d : Nat) {l m : List AV} (hn : d + 1 ≤ n) (hl : ∀ a ∈ l, datD d a) (hm : ∀ a ∈ m, datD d a) (p : ∀ r : Bool, (r = false ↔ l = m) → P (.bool r) μ) : CmpV g n .NotEq (.tup l) (.tup m) μ P := by
  intro A H ρ s va vb E hA B ra rb
  cases ra with
  | @tup _ x xs k hx hs =>
  cases rb with
  | @tup _ y ys k' hy hs' =>
  have hz := hs.length
  have hz' := hs'.length
  simp at hz hz'
  refine RcNeAt.tuples (A := A) (e := fun j => beqA d (l.getD j .none) (m.getD j .none)) ⟨_, hx.1, rfl, _, rfl⟩ ⟨_, hy.1, rfl, _, rfl⟩ hA.cl (eqLists (hA.le hn) hl hm hs hs') _ _ _ _ ?_
  refine .here (p _ ?_) B (fun _ _ e => e) rfl rfl (.bool _)
  rw [← eqL_iff (f := beqA d) fun a ha b hb => beqA_iff d a b (hl a ha) (hm b hb)]
  unfold eqL
  rw [hz, hz']
  by_cases q : l.length = m.length
  · rw [q]; simp
  · have : (l.length == m.length) = false := by simpa using q
    rw [this]; simp
theorem CmpV.neNoneLst {b : AV} {m : List AV} (lb : LstV μ b m) (p : P (.bool true) μ) : CmpV g n .NotEq .none b μ P := by
  intro A H ρ s va vb E hA B ra rb
  cases ra
  obtain ⟨y, ys, k', rfl, hy, hs'⟩ := lb.at B rb
  exact RcNeAt.none_list (A := A) (IsL.isList hy) hA.cl _ _ _ _ (.here p B (fun _ _ e => e) rfl rfl (.bool _))
theorem CmpV.inLst (d : Nat) {a b : AV} {m : List AV} (hn : d + 1 ≤ n) (lb : LstV μ b m) (ha : datD d a) (hm : ∀ a ∈ m, datD d a) (p : ∀ r : Bool, (r = true ↔ a ∈ m) → P (.bool r) μ) : CmpV g n .In a b μ P := by
  intro A H ρ s va vb E hA B ra rb
  obtain ⟨y, ys, k', rfl, hy, hs'⟩ := lb.at B rb
  classical
  let e : Value → Bool := fun v => decide (RV (Vis H ρ s.heap) ρ a v)
  have he : ∀ v, v ∈ ys → EqAt A.in1 s v va (e v) := fun v hv => by
    obtain ⟨j, hj⟩ := List.mem_iff_getElem?.mp (Array.mem_toList_iff.mpr hv)
    obtain ⟨q, hq, rq⟩ := hs'.get' hj
    have hqm := List.mem_of_getElem? hq
    have := eqAt d (hA.le hn).in1 (hm q hqm) ha rq ra
    have e1 : e v = beqA d q a := by
      by_cases h : q = a
      · subst h
        rw [(beqA_iff d q q ha ha).mpr rfl]
        exact decide_eq_true rq
      · have : beqA d q a = false := by
          cases hb : beqA d q a with
          | false => rfl
          | true => exact absurd ((beqA_iff d q a (hm q hqm) ha).mp hb) h
        rw [this]
        exact decide_eq_false fun z => h (RV.det Vis.det d (hm q hqm) ha rq z)
    rw [e1]; exact this
  refine in_listAt e (IsL.isList hy) he ?_
  refine .here (p _ ?_) B (fun _ _ e => e) rfl rfl (.bool _)
  rw [Array.any_eq_true']
  constructor
  · rintro ⟨v, hv, hev⟩
    obtain ⟨j, hj⟩ := List.mem_iff_getElem?.mp (Array.mem_toList_iff.mpr hv)
    obtain ⟨q, hq, rq⟩ := hs'.get' hj
    have hqm := List.mem_of_getElem? hq
    have := RV.det Vis.det d (hm q hqm) ha rq (of_decide_eq_true hev)
    rw [← this]; exact hqm
  · intro h
    obtain ⟨j, hj⟩ := List.mem_iff_getElem?.mp h
    obtain ⟨v, hv, rv⟩ := hs'.get hj
    exact ⟨v, Array.mem_toList_iff.mp (List.mem_of_getElem? hv), decide_eq_true rv⟩
theorem CmpV.inD {i : Nat} {kvs : List (Int × AV)} {ep : Nat} {k : Int} (hi : μ[i]? = some (.dI kvs ep)) (p : P (.bool (getA kvs k).isSome) μ) : CmpV g n .In (.int k) (.loc i) μ P := by
  intro A H ρ s va vb E hA B ra rb
  cases rb with
  | @loc _ x hx =>
  obtain ⟨x', h', kv', hD, hkv⟩ := B.cellOf hi
  rw [hx] at h'; cases h'
  have hf := KvAt.find (e := fun k => k) (fun _ _ q => q) hkv k
  refine wpAny_in_of (knd := intKind g.prog g.w) (intKey ra) (B.sys x (List.mem_of_getElem? hx)) hD.dictOf.mapOf ?_
  have e : (valueAt kv' k).isSome = (getA kvs k).isSome := by
    cases q : getA kvs k with
    | none => rw [q] at hf; rw [show valueAt kv' k = none from hf]; rfl
    | some a => rw [q] at hf; obtain ⟨v, hv, _⟩ := hf; rw [show valueAt kv' k = some v from hv]; rfl
  rw [e]
  exact .here p B (fun _ _ e => e) rfl rfl (.bool _)
theorem CmpV.notInD {i : Nat} {kvs : List (Int × AV)} {ep : Nat} {k : Int} (hi : μ[i]? = some (.dI kvs ep)) (p : P (.bool (!(getA kvs k).isSome)) μ) : CmpV g n .NotIn (.int k) (.loc i) μ P := by
  intro A H ρ s va vb E hA B ra rb
  cases rb with
  | @loc _ x hx =>
  obtain ⟨x', h', kv', hD, hkv⟩ := B.cellOf hi
  rw [hx] at h'; cases h'
  have hf := KvAt.find (e := fun k => k) (fun _ _ q => q) hkv k
  refine wpAny_notIn_of (knd := intKind g.prog g.w) (intKey ra) (B.sys x (List.mem_of_getElem? hx)) hD.dictOf.mapOf ?_
  have e : (valueAt kv' k).isSome = (getA kvs k).isSome := by
    cases q : getA kvs k with
    | none => rw [q] at hf; rw [show valueAt kv' k = none from hf]; rfl
    | some a => rw [q] at hf; obtain ⟨v, hv, _⟩ := hf; rw [show valueAt kv' k = some v from hv]; rfl
  rw [e]
  exact .here p B (fun _ _ e => e) rfl rfl (.bool _)

/- builtins -/
theorem Call.abs {i : Int} (p : P (.int (if i < 0 then -i else i)) μ) : Call g n (.builtin "abs") [.int i] μ P := by
  intro A H ρ s vs E hA B r
  cases r with
  | cons h1 r =>
  cases r
  cases h1
  exact call_abs_int fun u tk => .here p B (fun _ _ e => e) rfl rfl (.int _ _)
theorem Call.min {i j : Int} (p : P (.int (if j < i then j else i)) μ) : Call g n (.builtin "min") [.int i, .int j] μ P := by
  intro A H ρ s vs E hA B r
  cases r with
  | cons h1 r =>
  cases r with
  | cons h2 r =>
  cases r
  cases h1
  cases h2
  refine min_two_ints hA.handled fun h' tk hk => .here p B hk rfl rfl ?_
  split <;> exact .int _ _
theorem Call.max {i j : Int} (p : P (.int (if j > i then j else i)) μ) : Call g n (.builtin "max") [.int i, .int j] μ P := by
  intro A H ρ s vs E hA B r
  cases r with
  | cons h1 r =>
  cases r with
  | cons h2 r =>
  cases r
  cases h1
  cases h2
  refine max_two_ints hA.handled fun h' tk hk => .here p B hk rfl rfl ?_
  split <;> exact .int _ _
theorem Call.len {a : AV} {l : List AV} (la : LstV μ a l) (hz : (l.length : Int) < 2 ^ 63) (p : P (.int l.length) μ) : Call g n (.builtin "len") [a] μ P := by
  intro A H ρ s vs E hA B r
  cases r with
  | cons h1 r =>
  cases r
  obtain ⟨x, xs, k, rfl, hx, hs⟩ := la.at B h1
  have e := hs.length
  simp at e
  refine call_len_list (IsL.isList hx) (by rw [e]; exact hz) ?_
  rw [e]
  exact .here p B (fun _ _ e => e) rfl rfl (.int _ _)
theorem Call.lenD {i : Nat} {kvs : List (Int × AV)} {ep : Nat} (hi : μ[i]? = some (.dI kvs ep)) (hz : (kvs.length : Int) < 2 ^ 63) (p : P (.int kvs.length) μ) : Call g n (.builtin "len") [.loc i] μ P := by
  intro A H ρ s vs E hA B r
  cases r with
  | cons h1 r =>
  cases r
  cases h1 with
  | @loc _ x hx =>
  obtain ⟨x', h', kv', hD, hkv⟩ := B.cellOf hi
  rw [hx] at h'; cases h'
  refine call_len_dict (B.sys x (List.mem_of_getElem? hx)) hD.dictOf (by rw [← hkv.length]; exact hz) ?_
  rw [← hkv.length]
  exact .here p B (fun _ _ e => e) rfl rfl (.int _ _)
theorem Call.intB {b : Bool} (p : P (.int (if b then 1 else 0)) μ) : Call g n (.type "int") [.bool b] μ P := by
  intro A H ρ s vs E hA B r
  cases r with
  | cons h1 r =>
  cases r
  cases h1
  exact call_int_bool (.here p B (fun _ _ e => e) rfl rfl (.int _ _))
theorem Call.tupT {l : List AV} (p : P (.tup l) μ) : Call g n (.type "tuple") [.tup l] μ P := by
  intro A H ρ s vs E hA B r
  cases r with
  | cons h1 r =>
  cases r
  cases h1 with
  | @tup _ x xs k hx hs => exact call_tuple_same ⟨_, hx.1, rfl, _, rfl⟩ (.here p B (fun _ _ e => e) rfl rfl (.tup hx hs))
theorem Call.tupL {a : AV} {l : List AV} (la : LstV μ a l) (hz : l.length ≤ sizeLine) (p : P (.tup l) μ) : Call g n (.type "tuple") [a] μ P := by
  intro A H ρ s vs E hA B r
  cases r with
  | cons h1 r =>
  cases r
  obtain ⟨x, xs, k, rfl, hx, hs⟩ := la.at B h1
  have e := hs.length
  simp at e
  refine call_tuple_list (IsL.isList hx) (fun h' hk => ?_) (by rw [e]; exact hz)
  have hk' : ∀ b o, s.heap.get? b = some o → (h'.push { cls := .type "tuple", data := .seq xs }).get? b = some o := fun b o q => Heap.get?_push_of_some _ (hk b o q)
  have X : Ext [] ρ ρ s { s with heap := h'.push { cls := .type "tuple", data := .seq xs } } := Ext.keeps hk' rfl rfl
  refine ⟨_, μ, ρ, p, B.keeps hk', X, .tup ⟨Heap.get?_push_size _ rfl, fun q => ?_, fun q => ?_⟩ (X.rvs0 hs)⟩
  · obtain ⟨o, eo⟩ := B.lt _ q
    exact Nat.lt_irrefl _ (Heap.lt_size (hk _ _ eo))
  · obtain ⟨o, eo⟩ := B.thereρ q
    exact Nat.lt_irrefl _ (Heap.lt_size (hk _ _ eo))

theorem preSum_take {val : Nat → Int} {l : List Int} (hv : ∀ i (h : i < l.length), val i = l[i]) : ∀ k, k ≤ l.length → preSum val k = (l.take k).sum
  | 0, _ => by simp [preSum]
  | k + 1, h => by
    have e : l.take (k + 1) = l.take k ++ [l[k]] := by rw [List.take_add_one, List.getElem?_eq_getElem (show k < l.length by omega)]; rfl
    rw [preSum, preSum_take hv k (by omega), hv k (by omega), e, List.sum_append]
    simp
theorem Call.sum {l : List Int} (p : P (.int l.sum) μ) : Call g (n + 1) (.builtin "sum") [.lst (l.map .int)] μ P := by
  intro A H ρ s vs E hA B r
  cases r with
  | cons h1 r =>
  cases r
  cases h1 with
  | @lst _ x xs k hx hs =>
  have e := hs.length
  simp at e
  refine call_sum_walkG (wpAny_pyIter_list ⟨_, hx.1, rfl, _, rfl⟩ ?_)
  have hk0 := push_keep s.heap { cls := .type "list_iterator", data := .fields #[.ref x, .int 0 0] }
  refine ⟨s.heap.objs.size, _, _, _, _, _, fun i => l.getD i 0, rfl, Walks.list hA.in1.handled s.heap.objs.size x (Nat.ne_of_lt (Heap.lt_size hx.1)) xs, ⟨⟨_, Heap.get?_push_size _ rfl, rfl, rfl⟩, ⟨_, hk0 _ _ hx.1, rfl, _, rfl⟩⟩, fun b hb => ?_, fun i v hv => ?_, fun h' tk t' hk => ?_⟩
  · show b < (s.heap.push _).objs.size
    rw [Heap.size_push]
    rcases List.mem_cons.mp hb with rfl | hb
    · exact Nat.lt_succ_self _
    · rw [List.mem_singleton.mp hb]; exact Nat.lt_succ_of_lt (Heap.lt_size hx.1)
  · obtain ⟨a, ha, ra⟩ := hs.get' (i := i) (v := v) (by simpa using hv)
    rw [List.getElem?_map] at ha
    obtain ⟨z, hz, rfl⟩ := Option.map_eq_some_iff.mp ha
    cases ra
    rename_i t
    exact ⟨t, by show Value.int z t = Value.int (l.getD i 0) t; rw [List.getD_eq_getElem?_getD, hz]; rfl⟩
  · have hk' : ∀ b o, s.heap.get? b = some o → h'.get? b = some o := fun b o q => hk b o (fun z => by rw [List.mem_singleton.mp z] at q; exact Nat.lt_irrefl _ (Heap.lt_size q)) (hk0 b o q)
    have e2 : preSum (fun i => l.getD i 0) xs.size = l.sum := by
      rw [e, preSum_take (l := l) (fun i h => by simp [List.getD_eq_getElem?_getD, h]) _ (Nat.le_refl _), List.take_length]
    rw [e2]
    exact .here p B hk' rfl rfl (.int _ _)

/- lists -/
theorem BinV.addLst {a b : AV} {l m : List AV} (la : LstV μ a l) (lb : LstV μ b m) (hz : l.length + m.length ≤ sizeLine) (p : P (.lst (l ++ m)) μ) : BinV g n .Add a b μ P := by
  intro A H ρ s va vb E hA B ra rb
  obtain ⟨x, xs, k, rfl, hx, hs⟩ := la.at B ra
  obtain ⟨y, ys, k', rfl, hy, hs'⟩ := lb.at B rb
  have e := hs.length
  have e' := hs'.length
  simp at e e'
  refine PySem.P.add_list (hsz := by rw [e, e']; exact hz) hx hy ?_
  have hk := push_keep s.heap { cls := .type "list", data := .seq (xs ++ ys) }
  have X : Ext [] ρ ρ s { s with heap := s.heap.push { cls := .type "list", data := .seq (xs ++ ys) } } := Ext.keeps hk rfl rfl
  refine ⟨_, μ, ρ, p, B.keeps hk, X, .lst ⟨Heap.get?_push_size _ rfl, B.freshH, B.freshρ⟩ ?_⟩
  rw [Array.toList_append]
  exact (X.rvs0 hs).append (X.rvs0 hs')

theorem foldl_app {α : Type} (xs : Array α) : ∀ (k : Nat) (acc : Array α), (List.foldl (fun x y => x ++ y) acc (List.replicate k xs)).toList = acc.toList ++ (List.replicate k xs.toList).flatten
  | 0, acc => by simp
  | k + 1, acc => by
    rw [List.replicate_succ, List.foldl_cons, foldl_app xs k, List.replicate_succ, List.flatten_cons, Array.toList_append, List.append_assoc]
theorem RVs.rep {V : Vw} {ρ : List Addr} {l : List AV} {vs : List Value} (r : RVs V ρ l vs) : ∀ k, RVs V ρ (List.replicate k l).flatten (List.replicate k vs).flatten
  | 0 => .nil
  | k + 1 => by
    rw [List.replicate_succ, List.replicate_succ, List.flatten_cons, List.flatten_cons]
    exact r.append (RVs.rep r k)
theorem BinV.mulLst {a : AV} {l : List AV} {k : Int} (la : LstV μ a l) (hlo : 0 ≤ k) (hhi : k < 2 ^ 63) (hz : l.length * k.toNat ≤ 2 ^ 24) (p : P (.lst (List.replicate k.toNat l).flatten) μ) : BinV g n .Mult a (.int k) μ P := by
  intro A H ρ s va vb E hA B ra rb
  obtain ⟨x, xs, j, rfl, hx, hs⟩ := la.at B ra
  cases rb
  have e := hs.length
  simp at e
  let o : Obj := { cls := .type "list", data := .seq (List.foldl (fun x1 x2 => x1 ++ x2) #[] (List.replicate (if xs.isEmpty = true then 0 else k.toNat) xs)) }
  have key : Post g H [] ρ s P (.ref s.heap.objs.size) { s with heap := s.heap.push o } := by
    have hk := push_keep s.heap o
    have X : Ext [] ρ ρ s { s with heap := s.heap.push o } := Ext.keeps hk rfl rfl
    refine ⟨_, μ, ρ, p, B.keeps hk, X, .lst ⟨Heap.get?_push_size _ rfl, B.freshH, B.freshρ⟩ ?_⟩
    rw [foldl_app]
    simp only [List.nil_append, Array.toList_empty]
    by_cases q : xs.isEmpty = true
    · have : l = [] := by
        rw [Array.isEmpty_iff_size_eq_zero] at q
        rw [q] at e
        exact List.eq_nil_of_length_eq_zero e.symm
      subst this
      have : ∀ k, (List.replicate k ([] : List AV)).flatten = [] := fun k => by simp
      rw [this, if_pos q]
      exact .nil
    · rw [if_neg q]
      exact RVs.rep (X.rvs0 hs) _
  refine wpAny_binaryOp_repeat_ref (T := "list") (U := "int") (by decide) ⟨_, hx, rfl⟩ (fun s' => typeIs_int s' _ _) noFill_list_mul F.fills_int_mul F.slot_int_rmul repeat_list F.slot_int_index.lookup ?_
  exact call_meets F.slot_int_rmul (typeIs_int s _ _) F.entry_int_rmul (F.args_int_rmul_2 _ _) (int___rmul___int_list _ _ x xs j)
      ⟨hx, rfl, ⟨_, hx, rfl⟩, call_meets F.slot_list_mul ⟨_, hx, rfl⟩ F.entry_list_mul (F.args_list_mul_2 _ _)
        (AutoListH.list___mul___list_int_3 x xs j _ _ (by simp [Builtin.List.listFitsIndex]; omega) (by rw [e]; omega) (by simp [Builtin.List.listTooLong, sizeLine]; rw [e]; omega)) ⟨hx, key⟩⟩

/- slices -/
noncomputable def EvP (g : Gd) (n : Nat) (sc : Scope) (x : Option Expr) (lm : Lm) (μ : List Cell) (P : Option Int → List Cell → Prop) : Prop :=
  ∀ (A : Around) (env : Env) (H ρ : List Addr) (s : Shared) (E : Value → Shared → Prop), OkA n A → EnvOk sc env H → Base g H μ ρ s → FrameAt env lm H ρ s.heap →
    wpAny (model g.prog g.w) A (evalPart x env) (fun v s' => ∃ k μ' ρ', P k μ' ∧ Base g H μ' ρ' s' ∧ Ext [] ρ ρ' s s' ∧ IsPart v k) E s
theorem EvP.none {P : Option Int → List Cell → Prop} (p : P .none μ) : EvP g n sc .none lm μ P := by
  intro A env H ρ s E hA O B F
  rw [evalPart_none]
  exact wpAny_pure ⟨_, μ, ρ, p, B, Ext.refl _ _ _, .none⟩
theorem EvP.some {e : Expr} {P : Option Int → List Cell → Prop} (h : Ev g n sc e lm μ fun a μ₁ => ∃ i, a = .int i ∧ P (some i) μ₁) : EvP g n sc (some e) lm μ P := by
  intro A env H ρ s E hA O B F
  rw [evalPart_some]
  refine wpAny_mono (h A env H ρ s E hA O B F) ?_ fun _ _ x => x
  rintro v s₁ ⟨a, μ₁, ρ₁, ⟨i, rfl, p⟩, B₁, x₁, r₁⟩
  cases r₁
  exact ⟨_, μ₁, ρ₁, p, B₁, x₁, .int _ _⟩
theorem Ev.slice {lo hi st : Option Expr} {pos : Pos} (h : EvP g n sc lo lm μ fun l μ₁ => EvP g n sc hi lm μ₁ fun u μ₂ => EvP g n sc st lm μ₂ fun t μ₃ => P (.slc l u t) μ₃) : Ev g n sc (.Slice lo hi st pos) lm μ P := by
  intro A env H ρ s E hA O B F
  refine wpAny_Slice (wpAny_mono (h A env H ρ s E hA O B F) ?_ fun _ _ x => x)
  rintro vl s₁ ⟨l, μ₁, ρ₁, h₁, B₁, x₁, p₁⟩
  refine wpAny_mono (h₁ A env H ρ₁ s₁ E hA O B₁ (F.ext0 B O x₁)) ?_ fun _ _ x => x
  rintro vu s₂ ⟨u, μ₂, ρ₂, h₂, B₂, x₂, p₂⟩
  have x12 := x₁.trans x₂
  refine wpAny_mono (h₂ A env H ρ₂ s₂ E hA O B₂ (F.ext0 B O x12)) ?_ fun _ _ x => x
  rintro vt s₃ ⟨t, μ₃, ρ₃, h₃, B₃, x₃, p₃⟩
  have hk := push_keep s₃.heap { cls := .type "slice", data := .fields #[vl, vu, vt] }
  have X : Ext [] ρ₃ ρ₃ s₃ { s₃ with heap := s₃.heap.push { cls := .type "slice", data := .fields #[vl, vu, vt] } } := Ext.keeps hk rfl rfl
  exact ⟨_, μ₃, ρ₃, h₃, B₃.keeps hk, (x12.trans x₃).trans X, .slc ⟨Heap.get?_push_size _ rfl, B₃.freshH, B₃.freshρ⟩ p₁ p₂ p₃⟩

theorem SubV.slc {value slice : Expr} {a : AV} {l l' : List AV} {lo hi st : Option Int} (la : LstV μ a l) (hz : l.length ≤ sizeLine) (h0 : st ≠ some 0)
    (hp : ∀ (V : Vw) (ρ : List Addr) (its : Array Value), RVs V ρ l its.toList → RVs V ρ l' (slicePick its lo hi st).toList) (p : P (.lst l') μ) : SubV g n value slice a (.slc lo hi st) μ P := by
  intro A H ρ s va vb E hA B ra rb
  obtain ⟨x, xs, k, rfl, hx, hs⟩ := la.at B ra
  cases rb with
  | @slc _ _ _ b vl vu vt ho pl pu pt =>
  have e := hs.length
  simp at e
  refine subTail (T := "list") ⟨_, hx, rfl⟩ slot_list_getitem.lookup (wpAny_getItem_list_slice (hsz := by rw [e]; exact hz) (IsL.isList hx) ⟨_, ho.1, rfl, rfl⟩ pl pu pt h0 ?_)
  have hk := push_keep s.heap { cls := .type "list", data := .seq (slicePick xs lo hi st) }
  have X : Ext [] ρ ρ s { s with heap := s.heap.push { cls := .type "list", data := .seq (slicePick xs lo hi st) } } := Ext.keeps hk rfl rfl
  exact ⟨_, μ, ρ, p, B.keeps hk, X, .lst ⟨Heap.get?_push_size _ rfl, B.freshH, B.freshρ⟩ (hp _ _ _ (X.rvs0 hs))⟩
theorem SubV.upto {value slice : Expr} {a : AV} {l : List AV} {k : Nat} (la : LstV μ a l) (hz : l.length ≤ sizeLine) (p : P (.lst (l.take k)) μ) : SubV g n value slice a (.slc none (some k) none) μ P :=
  .slc la hz (by simp) (fun V ρ its r => by rw [slicePick_upto']; simpa using r.take k) p
theorem SubV.from {value slice : Expr} {a : AV} {l : List AV} {k : Nat} (la : LstV μ a l) (hz : l.length ≤ sizeLine) (p : P (.lst (l.drop k)) μ) : SubV g n value slice a (.slc (some k) none none) μ P :=
  .slc la hz (by simp) (fun V ρ its r => by rw [slicePick_from']; simpa using r.drop k) p
theorem SubV.rev {value slice : Expr} {a : AV} {l : List AV} (la : LstV μ a l) (hz : l.length ≤ sizeLine) (p : P (.lst l.reverse) μ) : SubV g n value slice a (.slc none none (some (-1))) μ P :=
  .slc la hz (by simp) (fun V ρ its r => by rw [krv_pick]; simpa using r.reverse) p
end
end
section
open PySem PySem.Spec PySem.Calls PyProof.Rows PySem.W PySem.SeqAt

theorem getA_none {kvs : List (String × AV)} {x : String} {m : Str → Option Value} (hw : Within m (kvs.map fun p => Str.ofString p.1)) (h : getA kvs x = none) : m (Str.ofString x) = none := by
  cases e : m (Str.ofString x) with
  | none => rfl
  | some v =>
    obtain ⟨p, hp, ep⟩ := List.mem_map.mp (hw (Str.ofString x) (by rw [e]; simp))
    have := ofS_inj ep
    unfold getA at h
    rw [Option.map_eq_none_iff, List.find?_eq_none] at h
    exact absurd this (by simpa using h p hp)

theorem lookIn_of {h : Heap} {a : Addr} {m : Str → Option Value} (hn : h.Ns1 a m) : ∃ o, h.get? a = some o ∧ ∀ x, lookIn x o = some (m x) := by
  obtain ⟨o, es, ep, ho, hd, hk, _, hf⟩ := hn
  refine ⟨o, ho, fun x => ?_⟩
  unfold lookIn
  rw [hd]
  dsimp only
  have e : es.toList.find? (fun e => e.key.isStr x) = es.find? (fun e => e.key.isStr x) := by rw [← Array.find?_toList]
  have hx := hf x
  unfold nsFind findBy at hx
  rw [← e] at hx
  have hr : es.toList.any (fun e => e.refKey) = false := by
    rw [List.any_eq_false]
    intro en hen
    obtain ⟨n, t, q⟩ := hk en (Array.mem_toList_iff.mp hen)
    simp [DictEntry.refKey, q]
  cases q : es.toList.find? (fun e => e.key.isStr x) with
  | none =>
    have hx' : (Option.map (fun x => x.val) (es.toList.find? (fun e => e.key.isStr x))) = m x := hx
    rw [q] at hx'
    simp only [hr, Bool.false_eq_true, if_false]
    rw [← hx']; rfl
  | some en =>
    have hx' : (Option.map (fun x => x.val) (es.toList.find? (fun e => e.key.isStr x))) = m x := hx
    rw [q] at hx'
    simp only
    rw [← hx']; rfl

noncomputable def isRaw : AV → Bool
  | .raw _ => true
  | _ => false
theorem RV.handed {V : Vw} {ρ : List Addr} {a : AV} {v : Value} (h : RV V ρ a v) (hr : isRaw a = false) : handedIn v = true := by
  cases h <;> first | rfl | (simp [isRaw] at hr)

section
variable {g : Gd} {n : Nat} {sc : Scope} {lm : Lm} {μ : List Cell} {P : AV → List Cell → Prop}

theorem obj_at {C : Addr} {i : Nat} {kvs : List (String × AV)} {H ρ : List Addr} {s : Shared} {va : Value} (B : Base g H μ ρ s) (hi : μ[i]? = some (.att kvs)) (r : RV (Vis H ρ s.heap) ρ (.obj C i) va) :
    ∃ x dx od m, va = .ref x ∧ ρ[i]? = some dx ∧ s.heap.Ns1 dx m ∧ (∀ y, ROpt (Vis H ρ s.heap) ρ (getA kvs y) (m (Str.ofString y))) ∧ Within m (kvs.map fun p => Str.ofString p.1) ∧
      InstAt s.heap x { cls := .ref C, dict := some dx, data := .plain } C (some od) ∧ s.heap.get? dx = some od ∧ (∀ y, lookIn y od = some (m y)) ∧ Vis H ρ s.heap x { cls := .ref C, dict := some dx, data := .plain } := by
  cases r with
  | @obj _ x dx _ ho hx =>
  obtain ⟨dx', h', m, hn, hr, hw⟩ := B.cellOf hi
  rw [hx] at h'; cases h'
  obtain ⟨od, hod, hl⟩ := lookIn_of hn
  exact ⟨x, dx, od, m, rfl, hx, hn, hr, hw, ⟨ho.1, rfl, rfl, hod⟩, hod, hl, ho⟩

theorem GetV.att {C : Addr} {i : Nat} {x : String} {kvs : List (String × AV)} {a : AV} {attr : Option Value} (hi : μ[i]? = some (.att kvs)) (hx : getA kvs x = some a) (p : P a μ)
    (hg : plainGet g.K C (Str.ofString x) = true) (hh : hasDictIn g.K C = true) (ha : findIn g.K (.ref C) (Str.ofString x) = some attr) (hn : noGet g.K attr = true) (hr : isRaw a = false) : GetV g n (Str.ofString x) (.obj C i) μ P := by
  intro A H ρ s va E hA B ra
  obtain ⟨y, dx, od, m, rfl, hdx, hns, hro, hw, I, hod, hl, ho⟩ := obj_at B hi ra
  have h1 := hro x
  rw [hx] at h1
  cases e : m (Str.ofString x) with
  | none => rw [e] at h1; exact h1.elim
  | some v =>
    rw [e] at h1
    exact get_value B.K I (plainGet_of hg).1 (findObj_own hh ha hn (by rw [hl, e])) (RV.handed h1 hr) (.here p B (fun _ _ e => e) rfl rfl h1)

theorem MethV.inst {C f : Addr} {i : Nat} {x : String} {kvs : List (String × AV)} (hi : μ[i]? = some (.att kvs)) (hx : getA kvs x = none)
    (hg : plainGet g.K C (Str.ofString x) = true) (hf : findIn g.K (.ref C) (Str.ofString x) = some (some (.ref f))) (ht : isFn g.K (.ref f) = true) : MethV g n (Str.ofString x) (.obj C i) (.ref f) μ := by
  intro A H ρ s va pl E hA B ra
  obtain ⟨y, dx, od, m, rfl, hdx, hns, hro, hw, I, hod, hl, ho⟩ := obj_at B hi ra
  exact method_fn B.K I (plainGet_of hg).1 (plainGet_of hg).2 hf (beq_iff_eq.mp ht) (by show (lookIn (Str.ofString x) od).map _ = _; rw [hl, getA_none hw hx]; rfl) ⟨rfl, rfl, rfl, rfl⟩

/-- `x.a = v` -/
noncomputable def SetA (g : Gd) (n : Nat) (a : AV) (x : Str) (c : AV) (μ : List Cell) (Q : List Cell → Prop) : Prop :=
  ∀ (A : Around) (H ρ : List Addr) (s : Shared) (va vc : Value) (E : Value → Shared → Prop), OkA n A → Base g H μ ρ s → RV (Vis H ρ s.heap) ρ a va → RV (Vis H ρ s.heap) ρ c vc →
    wpAny (model g.prog g.w) A (setAttr va x vc) (fun _ s' => ∃ μ' ρ', Q μ' ∧ Base g H μ' ρ' s' ∧ Ext [] ρ ρ' s s') E s
theorem Ex.assignAttr {o value : Expr} {x : Str} {p pos : Pos} {Q : Fl → Lm → List Cell → Prop} (h : Ev g n sc value lm μ fun c μ₁ => Ev g n sc o lm μ₁ fun a μ₂ => SetA g n a x c μ₂ fun μ₄ => Q .next lm μ₄)
    (hs : ∀ env, swapsWith value (some (.Attribute o x p)) pos.line env = pure false := by intro _; rfl) : Ex g n sc (.Assign [.Attribute o x p] value pos) lm μ Q := by
  intro A env H ρ s E hA O Fn B F
  refine plainObj_wpAny_Assign_Attribute (wpAny_mono (h A env H ρ s E hA O B F) ?_ fun _ _ x => x) (hs env)
  rintro vc s₁ ⟨c, μ₁, ρ₁, h₁, B₁, x₁, r₁⟩
  refine wpAny_mono (h₁ A env H ρ₁ s₁ E hA O B₁ (F.ext0 B O x₁)) ?_ fun _ _ x => x
  rintro va s₂ ⟨a, μ₂, ρ₂, h₂, B₂, x₂, r₂⟩
  have x12 := x₁.trans x₂
  refine wpAny_mono (h₂ A H ρ₂ s₂ va vc E hA B₂ r₂ (x₂.rv0 r₁)) ?_ fun _ _ x => x
  rintro _ s₄ ⟨μ₄, ρ₄, q, B₄, x₄⟩
  have x := x12.trans x₄
  exact ⟨.next, lm, μ₄, ρ₄, q, B₄, F.ext0 B O x, x.own B O, trivial⟩

theorem putA_get {kvs : List (String × AV)} {x y : String} {c : AV} : getA (putA kvs x c) y = if y = x then some c else getA kvs y := by
  unfold putA
  split
  · rename_i hany
    induction kvs with
    | nil => simp at hany
    | cons p r ih =>
      obtain ⟨k, b⟩ := p
      simp only [List.map_cons]
      by_cases q : k = x
      · subst q
        by_cases q2 : y = k
        · subst q2; simp [getA]
        · have q2' : ¬ k = y := fun z => q2 z.symm
          by_cases hr : r.any (fun kv => decide (kv.1 = k)) = true
          · have := ih hr
            simp only [getA, List.find?_cons, if_true, q2', decide_false, if_neg q2] at this ⊢
            exact this
          · have : r.map (fun kv => if kv.1 = k then (kv.1, c) else kv) = r := by
              rw [List.any_eq_true] at hr
              have : ∀ z ∈ r, (fun kv : String × AV => if kv.1 = k then (kv.1, c) else kv) z = z := fun z hz => if_neg fun e => hr ⟨z, hz, by simpa using e⟩
              rw [List.map_congr_left this, List.map_id']
            simp only [if_true, getA, List.find?_cons, q2', decide_false, if_neg q2, this]
      · have hr : r.any (fun kv => decide (kv.1 = x)) = true := by simpa [q] using hany
        have := ih hr
        by_cases q2 : y = k
        · subst q2
          simp [getA, q]
        · have q2' : ¬ k = y := fun z => q2 z.symm
          simp only [if_neg q, getA, List.find?_cons, q2', decide_false] at this ⊢
          exact this
  · rename_i hany
    unfold getA
    rw [List.find?_append]
    by_cases q : y = x
    · subst q
      have : kvs.find? (fun kv => decide (kv.1 = y)) = none := by
        rw [List.find?_eq_none]
        intro z hz e
        exact hany (List.any_eq_true.mpr ⟨z, hz, e⟩)
      rw [this]; simp
    · have : ¬ x = y := fun z => q z.symm
      simp [q, this]
theorem putA_keys {kvs : List (String × AV)} {x : String} {c : AV} {m : Str → Option Value} {v : Value} (hw : Within m (kvs.map fun p => Str.ofString p.1)) :
    Within (fun y => if y = Str.ofString x then some v else m y) ((putA kvs x c).map fun p => Str.ofString p.1) := by
  intro y hy
  unfold putA
  by_cases q : y = Str.ofString x
  · subst q
    split
    · rename_i hany
      obtain ⟨z, hz, e⟩ := List.any_eq_true.mp hany
      have e' : z.1 = x := by simpa using e
      refine List.mem_map.mpr ⟨(z.1, c), List.mem_map.mpr ⟨z, hz, if_pos e'⟩, by rw [e']⟩
    · exact List.mem_map.mpr ⟨(x, c), by simp, rfl⟩
  · have hy' : m y ≠ none := by simpa [q] using hy
    obtain ⟨z, hz, e⟩ := List.mem_map.mp (hw y hy')
    split
    · refine List.mem_map.mpr ⟨if z.1 = x then (z.1, c) else z, List.mem_map.mpr ⟨z, hz, rfl⟩, ?_⟩
      split <;> exact e
    · exact List.mem_map.mpr ⟨z, List.mem_append_left _ hz, e⟩

theorem SetA.att {C : Addr} {i : Nat} {x : String} {kvs : List (String × AV)} {c : AV} {Q : List Cell → Prop} (hi : μ[i]? = some (.att kvs)) (hsz : kvs.length < 1000) (q : Q (μ.set i (.att (putA kvs x c))))
    (hs : findIn g.K (.ref C) "__setattr__" = some (some (.builtin "object.__setattr__"))) (hp : plainOver g.K C = true) (ht : takerIn g.K C (Str.ofString x) = some none) (hh : (clsIn g.K C).any (·.hasDict) = true) : SetA g n (.obj C i) (Str.ofString x) c μ Q := by
  intro A H ρ s va vc E hA B ra rc
  obtain ⟨y, dx, od, m, rfl, hdx, hns, hro, hw, I, hod, hl, ho⟩ := obj_at B hi ra
  have B₁ : Base g H μ ρ { s with toks := s.toks + 1 } := B.keeps fun _ _ e => e
  refine set_plain B.K I hs (osa_open (s := { s with toks := s.toks + 1 }) B₁.K I hp ht fun b => ?_)
  obtain ⟨cd, hc, hd'⟩ := any_some hh
  refine wpAny_bind (wpAny_pure (wpAny_bind (wpAny_bind (wpAny_loadPart ho.1 (wpAny_bind ((looks_clsIn B₁.K hc).here ?_))))))
  rw [hd']
  refine wpAny_pure (a := some dx) ?_
  show wpAny _ _ (Builtin.ObjectAttr.storeInDict dx (.str (Str.ofString x) _) (Str.ofString x) vc) _ _ _
  unfold Builtin.ObjectAttr.storeInDict Builtin.ObjectAttr.newKeyGuard
  refine wpAny_bind (wpAny_pure (wpAny_bind (wpAny_nsSet1 hns fun h' hn' hs' => ?_)))
  obtain ⟨oD, esD, epD, hoD, hdD, hcD⟩ := hn'.count (Within.cons (Str.ofString x) vc hw)
  refine wpAny_bind (wpAny_lookBehind hoD (by rw [hdD]; exact pastItsLine_dict (Nat.le_trans hcD (by rw [List.length_cons, List.length_map, sizeLine_eq]; omega))) ?_)
  have hv := set_vis (H := H) hdx hs'
  refine wpAny_pure ⟨_, ρ, q, B.set hdx (fun b _ hb e => (hs'.2 b hb).trans e) ⟨_, hn', fun z => ?_, putA_keys hw⟩, Ext.set hdx (fun b _ hb e => (hs'.2 b hb).trans e) rfl rfl⟩
  rw [putA_get]
  by_cases e : z = x
  · subst e
    simp only [if_true]
    exact rc.mono hv (Sub.refl _)
  · have : ¬ Str.ofString z = Str.ofString x := fun w => e (ofS_inj w)
    rw [if_neg e, if_neg this]
    exact (hro z).mono hv (Sub.refl _)
end
end
section
open PySem PySem.Spec PySem.Calls PyProof.Rows PySem.W PySem.SeqAt

section
variable {g : Gd} {n : Nat} {sc : Scope} {lm : Lm} {μ : List Cell} {P : AV → List Cell → Prop}

theorem OkA.make {n : Nat} {A : Around} (h : OkA (n + 1) A) {C : Addr} {vs : List Value} : OkA n (A.under (.builtin "type.__call__" ⟨.ref C :: vs, []⟩)) := by
  have hw : (Code.builtin "type.__call__" ⟨.ref C :: vs, []⟩).weight ≤ 1 := by
    first | decide +kernel | (show (_ : Nat) ≤ 1; rfl) | exact Nat.le_refl _
  refine ⟨h.handled, ?_, ?_, ?_⟩
  · show A.depth + (Code.builtin "type.__call__" ⟨.ref C :: vs, []⟩).weight + n < recursionLimit
    have := h.depth; omega
  · show A.units + 1 + 8 * n + 8 < cLine
    have := h.units; omega
  · obtain ⟨l, hl⟩ := h.frames
    exact ⟨(Code.builtin "type.__call__" ⟨.ref C :: vs, []⟩).envs ++ l, by unfold Around.under; simp only [hl, pushEnvs_eq, Option.map_some]⟩

/-- an object is made: its names begin empty, `__init__` fills them -/
theorem Call.make {C fI : Addr} {args : List AV} (hm : makesIn g.K C = true) (hi : findIn g.K (.ref C) "__init__" = some (some (.ref fI))) (hf : typeIn g.K (.ref fI) = some (.type "function"))
    (h : CallC g n (.ref fI) (.obj C μ.length :: args) (μ ++ [.att []]) fun a μ' => a = .none ∧ P (.obj C μ.length) μ') : Call g (n + 1) (.ref C) args μ P := by
  intro A H ρ s vs E hA B r
  refine wpAny_call ?_
  have X : g.K.In s.heap := B.K
  obtain ⟨hp, gs, d, tk, os⟩ := s
  refine make_core (makes_of X hm) (looks_findIn X hi) (fun self => bind_fn X self hf) (.inl rfl) ?_
  let s₂ : Shared := ⟨(hp.push emptyDict).push (instObj C hp.objs.size), gs, d, tk, os⟩
  have hk1 : ∀ b o, hp.get? b = some o → (hp.push emptyDict).get? b = some o := push_keep _ _
  have hk2 : ∀ b o, (hp.push emptyDict).get? b = some o → s₂.heap.get? b = some o := push_keep _ _
  have hk : ∀ b o, hp.get? b = some o → s₂.heap.get? b = some o := fun b o e => hk2 b o (hk1 b o e)
  have hdx : s₂.heap.get? hp.objs.size = some emptyDict := hk2 _ _ (Heap.get?_push_size _ rfl)
  have hns : s₂.heap.Ns1 hp.objs.size (fun _ => none) := Heap.Ns1.of_empty ⟨_, #[], _, hdx, rfl, fun e he => absurd he (by simp), fun _ => rfl⟩
  have B₂ : Base g H (μ ++ [.att []]) (ρ ++ [hp.objs.size]) s₂ := B.new (a := hp.objs.size) (s' := s₂) hk (Nat.le_refl _) ⟨_, hns, fun x => trivial, Within.of_none fun _ => rfl⟩
  have x₂ : Ext [] ρ (ρ ++ [hp.objs.size]) ⟨hp, gs, d, tk, os⟩ s₂ := Ext.new hk (push_none _) rfl rfl
  have hsz : (hp.push emptyDict).objs.size = hp.objs.size + 1 := Heap.size_push ..
  have hx : s₂.heap.get? (hp.objs.size + 1) = some (instObj C hp.objs.size) := by rw [← hsz]; exact Heap.get?_push_size _ rfl
  have hxH : hp.objs.size + 1 ∉ H := fun q => Nat.not_succ_lt_self (B.ltH q)
  have hxρ : hp.objs.size + 1 ∉ ρ ++ [hp.objs.size] := fun q => (List.mem_append.mp q).elim (fun q => Nat.not_succ_lt_self (B.ltρ q)) fun q => Nat.succ_ne_self _ (List.mem_singleton.mp q)
  have hi' : (ρ ++ [hp.objs.size])[μ.length]? = some hp.objs.size := by rw [← B.len]; simp
  have ro : RV (Vis H (ρ ++ [hp.objs.size]) s₂.heap) (ρ ++ [hp.objs.size]) (.obj C μ.length) (.ref (hp.objs.size + 1)) := .obj ⟨hx, hxH, hxρ⟩ hi'
  refine h _ H _ s₂ _ _ hA.make B₂ (.cons ro (x₂.rvs0 r)) ?_
  rintro v s₃ ⟨a, μ₃, ρ₃, ⟨rfl, p⟩, B₃, x₃, r₃⟩
  cases r₃
  exact ⟨rfl, _, μ₃, ρ₃, p, B₃, x₂.trans x₃, x₃.rv0 ro⟩
end
end
section
open PySem PySem.Spec PySem.Calls PyProof.Rows PySem.W PySem.SeqAt

noncomputable def evalK {α : Type} (lt : Nat → Nat → Bool) : KasT α → α
  | .ret a => a
  | .ask i j k => evalK lt (k (lt i j))
noncomputable def okK {α : Type} (n : Nat) (lt : Nat → Nat → Bool) : KasT α → Bool
  | .ret _ => true
  | .ask i j k => i < n && j < n && i != j && okK n lt (k (lt i j))
theorem kasWp_pure {α : Type} {n : Nat} {lt : Nat → Nat → Bool} {cmp : Nat → Nat → (Bool → Shared → Prop) → Shared → Prop} {Q : α → Shared → Prop} {s : Shared}
    (hc : ∀ i j, i < n → j < n → i ≠ j → ∀ C : Bool → Shared → Prop, C (lt i j) s → cmp i j C s) : ∀ t : KasT α, okK n lt t = true → Q (evalK lt t) s → t.kasWp cmp Q s
  | .ret _, _, h => h
  | .ask i j k, hok, h => by
    simp only [okK, Bool.and_eq_true, decide_eq_true_eq, bne_iff_ne] at hok
    exact hc i j hok.1.1.1 hok.1.1.2 hok.1.2 _ (kasWp_pure hc (k (lt i j)) hok.2 h)

section
variable {prog : Program} {w : World} {A : Around} {E : Value → Shared → Prop} {s : Shared}

theorem sort_go {a : Addr} {vs outs : List Value} {n : Nat} {P : PySem.Fin → Shared → Prop} (ho : s.heap.get? a = some (seqObj "list" vs.toArray n)) (h64 : vs.length < 64)
    (hlt : vs.length < 2 → outs = vs)
    (hge : 2 ≤ vs.length → ∃ κ lt, okK vs.length lt (kas_sort vs.length) = true ∧ outs = (evalK lt (kas_sort vs.length)).toList.map (fun i => vs.getD i Value.none) ∧
      ∀ s' : Shared, (∀ b o, b ≠ a → s.heap.get? b = some o → s'.heap.get? b = some o) → (∀ Q : SortKind → Shared → Prop, Q κ s' → wpAny (model prog w) A (keyKind' vs.toArray) Q (fun _ _ => False) s') ∧
        ∀ i j, i < vs.length → j < vs.length → i ≠ j → ∀ C : Bool → Shared → Prop, C (lt i j) s' → kas_ask prog w A κ vs i j C s')
    (h : ∀ h' c, h'.get? a = some (seqObj "list" outs.toArray c) → (∀ b o, b ≠ a → s.heap.get? b = some o → h'.get? b = some o) → P (.done (.ret .none)) { s with heap := h' }) :
    wpAny (model prog w) A (Builtin.«list.sort» ⟨[.ref a], []⟩) P E s := by
  have s1 := Heap.SameBut.update s.heap a (Obj.mapSeq fun _ => (#[] : Array Value))
  obtain ⟨e1, ho1⟩ : ∃ e1, (s.heap.update a (Obj.mapSeq fun _ => (#[] : Array Value))).get? a = some (seqObj "list" #[] e1) := ⟨_, get?_update_seq ho fun _ => #[]⟩
  rw [list_sort_plain]
  refine wpAny_bind (listItems_at ho rfl ?_)
  refine wpAny_bind (listUpdate_at ho rfl ?_ (by rw [List.size_toArray, sizeLine_eq]; omega) (Nat.zero_le _))
  refine wpAny_bind (seqEpoch_at ho1 rfl ?_)
  refine wpAny_bind (wpAny_newTuple ?_ (by show vs.length ≤ _; rw [sizeLine_eq]; omega))
  refine wpAny_bind (wpAny_newList ?_ (Nat.zero_le _))
  refine wpAny_holding ?_
  generalize hh3 : ((s.heap.update a (Obj.mapSeq fun _ => (#[] : Array Value))).push (seqObj "tuple" vs.toArray 0)).push (seqObj "list" #[] 0) = h3
  have k3 : ∀ b o, (s.heap.update a (Obj.mapSeq fun _ => (#[] : Array Value))).get? b = some o → h3.get? b = some o := fun b o e => by rw [← hh3]; exact Heap.get?_push_of_some _ (Heap.get?_push_of_some _ e)
  have ho3 : h3.get? a = some (seqObj "list" #[] e1) := k3 _ _ ho1
  have kk : ∀ b o, b ≠ a → s.heap.get? b = some o → h3.get? b = some o := fun b o hb e => k3 b o ((s1.2 b hb).trans e)
  show wpAny (model prog w) A _ P E { s with heap := h3 }
  dsimp only
  have fin : ∀ (st : SortSt), (arrOf st).map (·.2) = outs.toArray → outs.length ≤ 64 → failedOf st = none → wpAny (model prog w) A (do
      let sorted := (arrOf st).map (·.2)
      let touched := (← seqEpoch a) != e1
      Builtin.List.listUpdate (.ref a) fun _ => sorted
      if let some e := failedOf st then rule "list.sort.comparison-raised"; throw e
      if touched then rule "list.sort.modified"; raiseError "ValueError" "list modified during sort"
      ret .none) P E { s with heap := h3 } := fun st hout hz hf => by
    have s2 := Heap.SameBut.update h3 a (Obj.mapSeq fun _ => outs.toArray)
    obtain ⟨c2, hc2⟩ : ∃ c2, (h3.update a (Obj.mapSeq fun _ => outs.toArray)).get? a = some (seqObj "list" outs.toArray c2) := ⟨_, get?_update_seq ho3 fun _ => outs.toArray⟩
    dsimp only
    rw [hout]
    refine wpAny_bind (seqEpoch_at ho3 rfl ?_)
    refine wpAny_bind (listUpdate_at ho3 rfl ?_ (Nat.zero_le _) (by rw [List.size_toArray, sizeLine_eq]; omega))
    rw [hf]
    simp only [bne_self_eq_false, Bool.false_eq_true, if_false]
    exact wpAny_pure (h _ c2 hc2 fun b o hb e => (s2.2 b hb).trans (kk b o hb e))
  by_cases h2 : vs.length < 2
  · have hn2 : vs.toArray.size < 2 := by rw [List.size_toArray]; exact h2
    rw [if_pos hn2, if_pos hn2]
    refine wpAny_bind (wpAny_pure ?_)
    refine wpAny_bind (wpAny_pure ?_)
    refine fin (SortSt.mk' general' (vs.toArray.zip vs.toArray) #[] 7 none) ?_ (by rw [hlt h2]; omega) rfl
    rw [hlt h2]
    show (vs.toArray.zip vs.toArray).map (·.2) = vs.toArray
    simp
    exact List.map_snd_zip (Nat.le_refl _)
  · have h2' : 2 ≤ vs.length := by omega
    obtain ⟨κ, lt, hok, hout, hask⟩ := hge h2'
    obtain ⟨hk, ha⟩ := hask { s with heap := h3 } kk
    have hn2 : ¬ vs.toArray.size < 2 := by rw [List.size_toArray]; exact h2
    rw [if_neg hn2, if_neg hn2]
    refine wpAny_bind (wpAny_mono (hk (fun κ' s' => κ' = κ ∧ s' = { s with heap := h3 }) ⟨rfl, rfl⟩) ?_ fun _ _ x => x.elim)
    rintro κ' s' ⟨rfl, rfl⟩
    refine wpAny_bind (wpAny_mono (kat_run (Q := fun st' s' => ∃ p : Array Nat, p.size = vs.length ∧ arrOf st' = p.map (kas_item (vs.toArray.zip vs.toArray)) ∧ failedOf st' = none ∧ p = evalK lt (kas_sort vs.length) ∧ s' = { s with heap := h3 })
      (G := fun p s' => p = evalK lt (kas_sort vs.length) ∧ s' = { s with heap := h3 }) rfl h2' h64 (fun p' st' s' a1 a2 a3 a4 => ⟨p', a1, a2, a3, a4⟩) (kasWp_pure ha _ hok ⟨rfl, rfl⟩)) ?_ fun _ _ e => e)
    rintro ⟨⟨⟩, st'⟩ s' ⟨p, hp, har, hf, rfl, rfl⟩
    have e := kat_snds (ks := vs) (vs := vs) rfl har
    refine fin st' (by rw [e, hout]) (by rw [hout, List.length_map, Array.length_toList, hp]; omega) hf

theorem sorted_go {l : Addr} {vs outs : List Value} {Q : Value → Shared → Prop} (hl : s.heap.IsList l vs.toArray) (h64 : vs.length < 64) (hlt : vs.length < 2 → outs = vs)
    (hge : 2 ≤ vs.length → ∃ κ lt, okK vs.length lt (kas_sort vs.length) = true ∧ outs = (evalK lt (kas_sort vs.length)).toList.map (fun i => vs.getD i Value.none) ∧
      ∀ s' : Shared, (∀ b o, s.heap.get? b = some o → s'.heap.get? b = some o) → (∀ Q : SortKind → Shared → Prop, Q κ s' → wpAny (model prog w) A.in1.in1 (keyKind' vs.toArray) Q (fun _ _ => False) s') ∧
        ∀ i j, i < vs.length → j < vs.length → i ≠ j → ∀ C : Bool → Shared → Prop, C (lt i j) s' → kas_ask prog w A.in1.in1 κ vs i j C s')
    (h : ∀ h' D c, s.heap.objs.size ≤ D → h'.get? D = some (seqObj "list" outs.toArray c) → (∀ b o, s.heap.get? b = some o → h'.get? b = some o) → Q (.ref D) { s with heap := h' }) :
    wpAny (model prog w) A (call (.builtin "sorted") [.ref l]) Q E s := by
  refine Calls.call_function_entry kind_sorted plain_sorted entry_sorted (args_sorted1 _) ?_
  unfold Builtin.«sorted»
  refine wpAny_bind (m := checkCount "sorted" 1 1 _) (wpAny_pure ?_)
  refine wpAny_bind (collect_list hl ?_ (by rw [sizeLine_eq]; omega))
  refine wpAny_bind (wpAny_newList ?_ (by rw [sizeLine_eq]; omega))
  have hsz : ((s.heap.push (seqObj "list" #[] 0)).update s.heap.objs.size (Obj.mapSeq (· ++ vs.toArray))).objs.size = s.heap.objs.size + 1 := by rw [Heap.size_update, size_push']
  generalize hH : (s.heap.push (seqObj "list" #[] 0)).update s.heap.objs.size (Obj.mapSeq (· ++ vs.toArray)) = H1 at hsz ⊢
  have k1 : ∀ b o, s.heap.get? b = some o → H1.get? b = some o := fun b o q => by
    have hlt : b < s.heap.objs.size := Heap.lt_size q
    rw [← hH, Heap.get?_update_ne _ _ _ _ (Nat.ne_of_lt hlt)]
    exact Heap.get?_push_of_some _ q
  have hoL : (H1.push (seqObj "list" vs.toArray 0)).get? H1.objs.size = some (seqObj "list" vs.toArray 0) := Heap.get?_push_size _ rfl
  have keep : ∀ b o, s.heap.get? b = some o → (H1.push (seqObj "list" vs.toArray 0)).get? b = some o := fun b o q => Heap.get?_push_of_some _ (k1 b o q)
  have hne : ∀ b o, s.heap.get? b = some o → b ≠ H1.objs.size := fun b o e => by rw [hsz]; exact Nat.ne_of_lt (Nat.lt_succ_of_lt (Heap.lt_size e))
  show wpAny _ _ _ _ _ { s with heap := H1.push (seqObj "list" vs.toArray 0) }
  refine wpAny_bind (wpAny_holding (wpAny_call_entry slot_list_sort ⟨_, hoL, rfl⟩ entry_list_sort ?_ (args_list_sort _)))
  refine sort_go (s := { s with heap := H1.push (seqObj "list" vs.toArray 0) }) (outs := outs) hoL h64 hlt (fun h2 => ?_) fun h' c hc hk => ?_
  · obtain ⟨κ, lt, a, b, hh⟩ := hge h2
    exact ⟨κ, lt, a, b, fun s' k => hh s' fun x o e => k x o (hne x o e) (keep x o e)⟩
  · exact ⟨_, rfl, wpAny_pure ⟨_, rfl, h h' H1.objs.size c (by rw [hsz]; exact Nat.le_succ _) hc fun b o e => hk b o (hne b o e) (keep b o e)⟩⟩
end

/- lists of pairs of numbers, all first parts or second parts apart -/
noncomputable def ltT (b01 b02 b12 : Bool) (i j : Nat) : Bool :=
  match i, j with
  | 0, 1 => b01
  | 1, 0 => !b01
  | 0, 2 => b02
  | 2, 0 => !b02
  | 1, 2 => b12
  | 2, 1 => !b12
  | _, _ => false
theorem sort2 : ∀ b01 b02 b12 : Bool, okK 2 (ltT b01 b02 b12) (kas_sort 2) = true ∧ (evalK (ltT b01 b02 b12) (kas_sort 2)).toList.Perm [0, 1] ∧ (evalK (ltT b01 b02 b12) (kas_sort 2)).toList.Pairwise (fun i j => ltT b01 b02 b12 i j = true) := by decide +kernel
theorem sort3 : ∀ b01 b02 b12 : Bool, (b01 = true → b12 = true → b02 = true) → (b01 = false → b12 = false → b02 = false) → okK 3 (ltT b01 b02 b12) (kas_sort 3) = true ∧ (evalK (ltT b01 b02 b12) (kas_sort 3)).toList.Perm [0, 1, 2] ∧ (evalK (ltT b01 b02 b12) (kas_sort 3)).toList.Pairwise (fun i j => ltT b01 b02 b12 i j = true) := by decide +kernel

noncomputable abbrev IP := Int × Int
noncomputable def lexB (p q : IP) : Bool := if p.1 = q.1 then decide (p.2 < q.2) else decide (p.1 < q.1)
noncomputable def ipA (p : IP) : AV := .tup [.int p.1, .int p.2]
theorem lexB_asym {p q : IP} (h : p ≠ q) : lexB q p = !lexB p q := by
  unfold lexB
  by_cases e : p.1 = q.1
  · have h2 : p.2 ≠ q.2 := fun z => h (Prod.ext e z)
    rw [if_pos e.symm, if_pos e]
    by_cases z : p.2 < q.2
    · have : ¬ q.2 < p.2 := by omega
      simp [z, this]
    · have : q.2 < p.2 := by omega
      simp [z, this]
  · rw [if_neg (Ne.symm e), if_neg e]
    by_cases z : p.1 < q.1
    · have : ¬ q.1 < p.1 := by omega
      simp [z, this]
    · have : q.1 < p.1 := by omega
      simp [z, this]
theorem lexB_trans {p q r : IP} (h1 : lexB p q = true) (h2 : lexB q r = true) : lexB p r = true := by
  unfold lexB at *
  split at h1 <;> split at h2 <;> split <;> simp only [decide_eq_true_eq] at * <;> omega
theorem lexB_irrefl (p : IP) : lexB p p = false := by simp [lexB]
end
section
open PySem PySem.Spec PySem.Calls PyProof.Rows PySem.W PySem.SeqAt

section
variable {g : Gd} {n : Nat} {sc : Scope} {lm : Lm} {μ : List Cell} {P : AV → List Cell → Prop}

theorem getD_rv {V : Vw} {ρ : List Addr} {l : List IP} {vs : List Value} (r : RVs V ρ (l.map ipA) vs) {i : Nat} (hi : i < l.length) : RV V ρ (ipA (l.getD i (0, 0))) (vs.getD i Value.none) := by
  obtain ⟨v, hv, rv⟩ := r.get (i := i) (x := ipA (l.getD i (0, 0))) (by simp [hi])
  have e : vs.getD i Value.none = v := by rw [List.getD_eq_getElem?_getD, hv]; rfl
  rw [e]; exact rv
theorem getD_rvs {V : Vw} {ρ : List Addr} {l : List IP} {vs : List Value} (r : RVs V ρ (l.map ipA) vs) : ∀ π : List Nat, (∀ i ∈ π, i < l.length) → RVs V ρ ((π.map fun i => l.getD i (0, 0)).map ipA) (π.map fun i => vs.getD i Value.none)
  | [], _ => .nil
  | i :: π, h => .cons (getD_rv r (h i List.mem_cons_self)) (getD_rvs r π fun j hj => h j (List.mem_cons_of_mem _ hj))

theorem ask_lex {prog : Program} {w : World} {A : Around} {V : Vw} {ρ : List Addr} {s : Shared} {p q : IP} {v u : Value} {C : Bool → Shared → Prop} (hV : ∀ a o, V a o → s.heap.get? a = some o) (rp : RV V ρ (ipA p) v) (rq : RV V ρ (ipA q) u) (h : C (lexB p q) s) :
    wpAny (model prog w) A (keyLt' (tuples' true) v u) C (fun _ _ => False) s := by
  cases rp with
  | @tup _ a xs m ho hs =>
  cases rq with
  | @tup _ b ys k ho' hs' =>
  refine kat_lt (hV _ _ ho) rfl (hV _ _ ho') rfl ?_
  generalize hx : xs.toList = lx at hs
  generalize hy : ys.toList = ly at hs'
  have z1 : xs.size = 2 := by have := hs.length; rw [← hx] at this; simpa using this
  have z2 : ys.size = 2 := by have := hs'.length; rw [← hy] at this; simpa using this
  cases hs with
  | cons a1 hs =>
  cases hs with
  | cons a2 hs =>
  cases hs
  cases hs' with
  | cons b1 hs' =>
  cases hs' with
  | cons b2 hs' =>
  cases hs'
  cases a1; cases a2; cases b1; cases b2
  refine kat_cons (wpAny_eqBool_int ?_)
  by_cases e : p.1 = q.1
  · have e' : (p.1 == q.1) = true := by simpa using e
    rw [e']
    refine kat_yes (kat_cons (wpAny_eqBool_int ?_))
    by_cases f : p.2 = q.2
    · have f' : (p.2 == q.2) = true := by simpa using f
      rw [f']
      refine kat_yes (kat_nil ?_)
      have : lexB p q = false := by unfold lexB; rw [if_pos e, f]; simp
      rw [this] at h
      rw [z1, z2]
      exact h
    · have f' : (p.2 == q.2) = false := by simpa using f
      rw [f']
      refine kat_no ?_
      refine kat_one _ _ (PyProof.Rows.lt_int ?_)
      have : lexB p q = decide (p.2 < q.2) := by unfold lexB; rw [if_pos e]
      rw [this] at h
      exact h
  · have e' : (p.1 == q.1) = false := by simpa using e
    rw [e']
    refine kat_no ?_
    refine oneLt_int ?_
    have : lexB p q = decide (p.1 < q.1) := by unfold lexB; rw [if_neg e]
    rw [this] at h
    exact h

theorem katTups {V : Vw} {ρ : List Addr} {h : Heap} (hV : ∀ a o, V a o → h.get? a = some o) : ∀ {l : List IP} {vs : List Value}, RVs V ρ (l.map ipA) vs → ∃ fs : List Value, KatTups h vs fs ∧ fs.length = l.length ∧ ∀ v ∈ fs, ∃ i t, v = .int i t
  | [], _, .nil => ⟨[], trivial, rfl, fun _ q => nomatch q⟩
  | p :: l, v :: vs, .cons hr r => by
    obtain ⟨fs, h1, h2, h3⟩ := katTups hV r
    cases hr with
    | @tup _ a xs m ho hs =>
      generalize hx : xs.toList = lx at hs
      cases hs with
      | @cons _ u _ us a1 hs' =>
        cases a1 with
        | int i t =>
        refine ⟨.int p.1 t :: fs, .cons (hV _ _ ho) rfl rfl (by rw [← Array.getElem?_toList, hx]; rfl) h1, by simp [h2], fun v hv => ?_⟩
        rcases List.mem_cons.mp hv with rfl | hv
        · exact ⟨_, _, rfl⟩
        · exact h3 v hv

theorem ltT_lex {l : List IP} {d : IP} (h3 : l.length ≤ 3) (hnd : l.Nodup) {i j : Nat} (hi : i < l.length) (hj : j < l.length) (hij : i ≠ j) :
    ltT (lexB (l.getD 0 d) (l.getD 1 d)) (lexB (l.getD 0 d) (l.getD 2 d)) (lexB (l.getD 1 d) (l.getD 2 d)) i j = lexB (l.getD i d) (l.getD j d) := by
  have ne : ∀ {i j : Nat}, i < l.length → j < l.length → i ≠ j → l.getD i d ≠ l.getD j d := fun {i j} hi hj hij e => by
    rw [getD_at hi, getD_at hj] at e
    exact hij ((List.getElem_inj hnd).mp e)
  have hi3 : i < 3 := by omega
  have hj3 : j < 3 := by omega
  match i, j, hi3, hj3 with
  | 0, 0, _, _ => exact absurd rfl hij
  | 1, 1, _, _ => exact absurd rfl hij
  | 2, 2, _, _ => exact absurd rfl hij
  | 0, 1, _, _ => rfl
  | 0, 2, _, _ => rfl
  | 1, 2, _, _ => rfl
  | 1, 0, _, _ => exact (lexB_asym (ne hj hi (by decide))).symm
  | 2, 0, _, _ => exact (lexB_asym (ne hj hi (by decide))).symm
  | 2, 1, _, _ => exact (lexB_asym (ne hj hi (by decide))).symm

theorem Call.sorted {a : AV} {l : List IP} (la : LstV μ a (l.map ipA)) (h3 : l.length ≤ 3) (hnd : l.Nodup) (p : ∀ l' : List IP, l'.Perm l → l'.Pairwise (fun x y => lexB x y = true) → P (.lst (l'.map ipA)) μ) : Call g n (.builtin "sorted") [a] μ P := by
  intro A H ρ s vs E hA B r
  cases r with
  | cons h1 r =>
  cases r
  obtain ⟨x, its, m, rfl, hI, hs⟩ := la.at B h1
  have hz : its.toList.length = l.length := by rw [hs.length]; simp
  let π : List Nat := if l.length < 2 then List.range l.length else (evalK (ltT (lexB (l.getD 0 (0, 0)) (l.getD 1 (0, 0))) (lexB (l.getD 0 (0, 0)) (l.getD 2 (0, 0))) (lexB (l.getD 1 (0, 0)) (l.getD 2 (0, 0)))) (kas_sort l.length)).toList
  have hlist : ∀ {α : Type} (l : List α) (d : α), (List.range l.length).map (fun i => l.getD i d) = l := fun l d => by
    apply List.ext_getElem (by simp)
    intro i h1 h2
    simp [h2]
  have hne : ∀ {i j : Nat}, i < l.length → j < l.length → i ≠ j → l.getD i (0, 0) ≠ l.getD j (0, 0) := fun {i j} hi hj hij e => by
    rw [getD_at hi, getD_at hj] at e
    exact hij ((List.getElem_inj hnd).mp e)
  have hπ : π.Perm (List.range l.length) ∧ π.Pairwise (fun i j => lexB (l.getD i (0, 0)) (l.getD j (0, 0)) = true) ∧ (2 ≤ l.length → okK l.length (ltT (lexB (l.getD 0 (0, 0)) (l.getD 1 (0, 0))) (lexB (l.getD 0 (0, 0)) (l.getD 2 (0, 0))) (lexB (l.getD 1 (0, 0)) (l.getD 2 (0, 0)))) (kas_sort l.length) = true) := by
    have tr : ∀ {π : List Nat}, π.Perm (List.range l.length) → π.Pairwise (fun i j => ltT (lexB (l.getD 0 (0, 0)) (l.getD 1 (0, 0))) (lexB (l.getD 0 (0, 0)) (l.getD 2 (0, 0))) (lexB (l.getD 1 (0, 0)) (l.getD 2 (0, 0))) i j = true) → π.Pairwise (fun i j => lexB (l.getD i (0, 0)) (l.getD j (0, 0)) = true) := fun {π} hp hw => by
      refine List.Pairwise.imp_of_mem (fun {i j} hi hj hij => ?_) hw
      have hi' : i < l.length := List.mem_range.mp (hp.mem_iff.mp hi)
      have hj' : j < l.length := List.mem_range.mp (hp.mem_iff.mp hj)
      have : i ≠ j := fun e => by
        subst e
        have : i < 3 := by omega
        match i, this with
        | 0, _ => simp [ltT] at hij
        | 1, _ => simp [ltT] at hij
        | 2, _ => simp [ltT] at hij
      rw [← ltT_lex h3 hnd hi' hj' this]; exact hij
    by_cases h2 : l.length < 2
    · have e : π = List.range l.length := if_pos h2
      rw [e]
      refine ⟨List.Perm.refl _, ?_, fun q => absurd h2 (by omega)⟩
      have : l.length = 0 ∨ l.length = 1 := by omega
      rcases this with z | z <;> rw [z] <;> simp [List.range, List.range.loop]
    · have e : π = _ := if_neg h2
      rw [e]
      have : l.length = 2 ∨ l.length = 3 := by omega
      rcases this with z | z
      · have := sort2 (lexB (l.getD 0 (0, 0)) (l.getD 1 (0, 0))) (lexB (l.getD 0 (0, 0)) (l.getD 2 (0, 0))) (lexB (l.getD 1 (0, 0)) (l.getD 2 (0, 0)))
        rw [z] at tr ⊢
        exact ⟨this.2.1, tr this.2.1 this.2.2, fun _ => this.1⟩
      · have := sort3 (lexB (l.getD 0 (0, 0)) (l.getD 1 (0, 0))) (lexB (l.getD 0 (0, 0)) (l.getD 2 (0, 0))) (lexB (l.getD 1 (0, 0)) (l.getD 2 (0, 0))) (fun a b => lexB_trans a b) (fun a b => by
          have n01 := lexB_asym (hne (i := 0) (j := 1) (by omega) (by omega) (by decide))
          have n12 := lexB_asym (hne (i := 1) (j := 2) (by omega) (by omega) (by decide))
          have n02 := lexB_asym (hne (i := 0) (j := 2) (by omega) (by omega) (by decide))
          rw [a] at n01
          rw [b] at n12
          have := lexB_trans n12 n01
          rw [n02] at this
          simpa using this)
        rw [z] at tr ⊢
        exact ⟨this.2.1, tr this.2.1 this.2.2, fun _ => this.1⟩
  obtain ⟨hp, hw, hok⟩ := hπ
  have hlt : ∀ i ∈ π, i < l.length := fun i hi => List.mem_range.mp (hp.mem_iff.mp hi)
  have hits : its.toList.toArray = its := by simp
  have hvs : its.toList.length < 64 := by omega
  refine sorted_go (vs := its.toList) (outs := π.map fun i => its.toList.getD i Value.none) (by rw [hits]; exact IsL.isList hI) hvs (fun h2 => ?_) (fun h2 => ?_) fun h' D c hD hc hk => ?_
  · have e : π = List.range l.length := if_pos (by omega)
    rw [e, ← hz]
    exact hlist _ _
  · rw [hz] at h2 ⊢
    refine ⟨tuples' true, _, hok h2, ?_, fun s' hk => ⟨fun Q hq => ?_, fun i j hi hj hij C hC => ?_⟩⟩
    · have e : π = _ := if_neg (by omega)
      rw [e]
    · obtain ⟨fs, t1, t2, t3⟩ := katTups (V := Vis H ρ s.heap) (h := s'.heap) (fun a o z => hk a o z.1) hs
      refine kat_kind (T := .type "int") t1 (by omega) (fun v hv => ?_) (by decide) hq
      obtain ⟨i, t, rfl⟩ := t3 v hv
      exact Looks.of_pure rfl
    · unfold kas_ask
      rw [ltT_lex h3 hnd hi hj hij] at hC
      exact ask_lex (V := Vis H ρ s.heap) (ρ := ρ) (fun a o z => hk a o z.1) (getD_rv hs hi) (getD_rv hs hj) hC
  · have X : Ext [] ρ ρ s { s with heap := h' } := Ext.keeps hk rfl rfl
    have hl' : (π.map fun i => l.getD i (0, 0)).Perm l := by
      have := hp.map (fun i => l.getD i (0, 0))
      rwa [hlist] at this
    refine ⟨_, μ, ρ, p (π.map fun i => l.getD i (0, 0)) hl' (List.pairwise_map.mpr hw), B.keeps hk, X, .lst ⟨hc, fun q => ?_, fun q => ?_⟩ ?_⟩
    · obtain ⟨o, eo⟩ := B.lt _ q
      exact Nat.lt_irrefl _ (Nat.lt_of_lt_of_le (Heap.lt_size eo) hD)
    · obtain ⟨o, eo⟩ := B.thereρ q
      exact Nat.lt_irrefl _ (Nat.lt_of_lt_of_le (Heap.lt_size eo) hD)
    · simpa using X.rvs0 (getD_rvs hs π hlt)
end
end
section
open PySem PySem.Spec PySem.Calls PyProof.Rows PySem.W PySem.SeqAt

section
variable {g : Gd} {n : Nat} {sc : Scope} {lm : Lm} {μ : List Cell} {P : AV → List Cell → Prop}

/-- a hidden object becomes a place -/
theorem Base.claim {H ρ : List Addr} {s s' : Shared} {d : Addr} {c : Cell} (B : Base g (d :: H) μ ρ s) (hd : d ∉ H) (hsys : (d == sysModules) = false) (hk : ∀ b o, b ≠ d → s.heap.get? b = some o → s'.heap.get? b = some o)
    (hC : CellAt g (Vis H (ρ ++ [d]) s'.heap) (ρ ++ [d]) s'.heap d c) : Base g H (μ ++ [c]) (ρ ++ [d]) s' ∧ ∀ a o, Vis (d :: H) ρ s.heap a o → Vis H (ρ ++ [d]) s'.heap a o := by
  have hdρ : d ∉ ρ := fun q => B.dis d q List.mem_cons_self
  have hv : ∀ a o, Vis (d :: H) ρ s.heap a o → Vis H (ρ ++ [d]) s'.heap a o := fun a o z =>
    ⟨hk a o (fun q => z.2.1 (q ▸ List.mem_cons_self)) z.1, fun q => z.2.1 (List.mem_cons_of_mem _ q), fun q => (List.mem_append.mp q).elim z.2.2 fun q => z.2.1 (List.mem_singleton.mp q ▸ List.mem_cons_self)⟩
  refine ⟨⟨B.ok, fun b o e => hv b o (B.old b o e), by simp [B.len], ?_, ?_, fun a ha => (List.mem_append.mp ha).elim (B.sys a) fun q => by rw [List.mem_singleton.mp q]; exact hsys, fun a ha => ?_, ?_⟩, hv⟩
  · exact List.nodup_append.mpr ⟨B.nd, (by simp), fun x hx y hy e => hdρ (by rw [List.mem_singleton] at hy; rw [← hy, ← e]; exact hx)⟩
  · intro b hb
    rcases List.mem_append.mp hb with q | q
    · exact fun z => B.dis b q (List.mem_cons_of_mem _ z)
    · rw [List.mem_singleton.mp q]; exact hd
  · obtain ⟨o, e⟩ := B.lt a (List.mem_cons_of_mem _ ha)
    exact ⟨o, hk a o (fun q => hd (q ▸ ha)) e⟩
  · intro i c' b hc hb
    rcases Nat.lt_or_ge i μ.length with q | q
    · rw [List.getElem?_append_left q] at hc
      rw [List.getElem?_append_left (by rw [B.len]; exact q)] at hb
      exact (B.cell i c' b hc hb).keeps hv (Sub.append _ _) fun o e => hk b o (fun z => hdρ (z ▸ List.mem_of_getElem? hb)) e
    · rw [List.getElem?_append_right q] at hc
      rw [List.getElem?_append_right (by rw [B.len]; exact q), B.len] at hb
      have hi : i - μ.length = 0 := by
        rcases Nat.eq_zero_or_pos (i - μ.length) with z | z
        · exact z
        · rw [List.getElem?_eq_none (by simp; omega)] at hc; cases hc
      rw [hi] at hc hb
      simp at hc hb
      subst hc hb
      exact hC

/-- pairs of a dict display -/
noncomputable def EvPs (g : Gd) (n : Nat) (sc : Scope) (ps : List (Expr × Expr)) (lm : Lm) (μ : List Cell) (P : List (AV × AV) → List Cell → Prop) : Prop :=
  ∀ (A : Around) (env : Env) (H ρ : List Addr) (s : Shared) (pos : Pos) (E : Value → Shared → Prop), OkA n A → EnvOk sc env H → Base g H μ ρ s → FrameAt env lm H ρ s.heap →
    wpAny (model g.prog g.w) A (evalPairs (ps.map fun p => (eval p.1 env, do let x ← eval p.2 env; standAt pos; pure x))) (fun vs s' => ∃ l μ' ρ', P l μ' ∧ Base g H μ' ρ' s' ∧ Ext [] ρ ρ' s s' ∧ RVs (Vis H ρ' s'.heap) ρ' (l.map (·.1)) (vs.map (·.1)) ∧ RVs (Vis H ρ' s'.heap) ρ' (l.map (·.2)) (vs.map (·.2)) ∧ vs.length = ps.length) E s
theorem EvPs.nil {P : List (AV × AV) → List Cell → Prop} (p : P [] μ) : EvPs g n sc [] lm μ P := by
  intro A env H ρ s pos E hA O B F
  exact evalPairs_nil ⟨[], μ, ρ, p, B, Ext.refl _ _ _, .nil, .nil, rfl⟩
theorem EvPs.cons {k v : Expr} {ps : List (Expr × Expr)} {P : List (AV × AV) → List Cell → Prop} (h : Ev g n sc k lm μ fun a μ₁ => Ev g n sc v lm μ₁ fun b μ₂ => EvPs g n sc ps lm μ₂ fun l μ₃ => P ((a, b) :: l) μ₃) : EvPs g n sc ((k, v) :: ps) lm μ P := by
  intro A env H ρ s pos E hA O B F
  refine evalPairs_cons (wpAny_mono (h A env H ρ s E hA O B F) ?_ fun _ _ x => x)
  rintro va s₁ ⟨a, μ₁, ρ₁, h₁, B₁, x₁, r₁⟩
  refine wpAny_bind (wpAny_mono (h₁ A env H ρ₁ s₁ E hA O B₁ (F.ext0 B O x₁)) ?_ fun _ _ x => x)
  rintro vb s₂ ⟨b, μ₂, ρ₂, h₂, B₂, x₂, r₂⟩
  refine wpAny_bind (wpAny_standAt (wpAny_pure ?_))
  have x12 := x₁.trans x₂
  refine wpAny_mono (h₂ A env H ρ₂ s₂ pos E hA O B₂ (F.ext0 B O x12)) ?_ fun _ _ x => x
  rintro vs s₃ ⟨l, μ₃, ρ₃, h₃, B₃, x₃, ra, rb, hl⟩
  exact ⟨(a, b) :: l, μ₃, ρ₃, h₃, B₃, x12.trans x₃, .cons ((x₂.trans x₃).rv0 r₁) ra, .cons (x₃.rv0 r₂) rb, by simp [hl]⟩

theorem dict_go {K : Type} [DecidableEq K] {κ : Type} {knd : KeyKind g.prog g.w K} {R : κ → K → Prop} {ps : List (Expr × Expr)} {keys : List (Option Expr)} {values : List Expr} {pos : Pos}
    (hkv : ∀ env, (evalEachOpt keys env).zip ((evalEach values env).map fun v => do let x ← v; standAt pos; pure x) = ((ps.map fun p => (eval p.1 env, do let x ← eval p.2 env; standAt pos; pure x)).map fun p => (some p.1, p.2)))
    (h0 : ps ≠ []) (hlen : ps.length ≤ 15) (Cok : List (κ × AV) → Cell → Prop)
    (hcell : ∀ (V : Vw) (ρ : List Addr) (h : Heap) (d : Addr) (kvs : List (κ × AV)) (kv' : List (K × Value)), h.DictOf knd d kv' → KvAt R V ρ kvs kv' → ∃ c, Cok kvs c ∧ CellAt g V ρ h d c)
    (h : EvPs g n sc ps lm μ fun l μ' => ∃ kvs, (∀ (V : Vw) (ρ : List Addr) (vs : List (Value × Value)), RVs V ρ (l.map (·.1)) (vs.map (·.1)) → RVs V ρ (l.map (·.2)) (vs.map (·.2)) → ∃ kvs' : List (K × Value), Carries knd vs kvs' ∧ KvAt R V ρ kvs (merged [] kvs')) ∧
      ∀ c, Cok kvs c → P (.loc μ'.length) (μ' ++ [c])) :
    Ev g n sc (.Dict keys values pos) lm μ P := by
  intro A env H ρ s E hA O B F
  refine wpAny_Dict_pairs (knd := knd) (hkv env) (by simpa using h0) (by simpa using hlen) ?_
  let o : Obj := { cls := .type "dict", data := .dict #[] }
  let s₁ : Shared := { s with heap := s.heap.push o }
  have hk := push_keep s.heap o
  obtain ⟨B₁, hv⟩ := B.enter (O := [s.heap.objs.size]) (s' := s₁) hk (fun b hb => by rw [List.mem_singleton.mp hb]; exact push_none _) (fun b hb => by rw [List.mem_singleton.mp hb]; exact ⟨_, Heap.get?_push_size _ rfl⟩)
  have x₁ : Ext [] ρ ρ s s₁ := Ext.keeps hk rfl rfl
  have F₁ : FrameAt env lm ([s.heap.objs.size] ++ H) ρ s₁.heap := F.into O B x₁ (fun b hb => by rw [List.mem_singleton.mp hb]; exact push_none _)
  refine wpAny_mono (h A env _ ρ s₁ pos E hA O.more B₁ F₁) ?_ fun _ _ x => x
  rintro vs s₂ ⟨l, μ₂, ρ₂, ⟨kvs, hcar, p⟩, B₂, x₂, ra, rb, hl⟩
  have hdn : s.heap.objs.size ∉ H := B.freshH
  have hdρ : s.heap.objs.size ∉ ρ := B.freshρ
  obtain ⟨kvs', hc, hkv'⟩ := hcar _ _ vs ra rb
  have hd0 : s₂.heap.DictOf knd s.heap.objs.size [] := (Heap.DictOf.new (knd := knd) s.heap).at fun o' e => (x₂.keep _ o' (fun q => nomatch q) hdρ e).1
  refine ⟨kvs', hc, hd0, fun h' hD hs' => ?_⟩
  have hsys : (s.heap.objs.size == sysModules) = false := by
    have h1 := B.gl.lt
    have : sysModules < s.heap.objs.size := Nat.lt_of_le_of_lt (by decide) h1
    exact beq_eq_false_iff_ne.mpr (Nat.ne_of_gt this)
  have hdρ₂ : s.heap.objs.size ∉ ρ₂ := fun q => B₂.dis _ q List.mem_cons_self
  let s₃ : Shared := { s₂ with heap := h', toks := s₂.toks + vs.length }
  have hk' : ∀ b o, b ≠ s.heap.objs.size → s₂.heap.get? b = some o → s₃.heap.get? b = some o := fun b o hb e => (hs'.2 b hb).trans e
  have hv' : ∀ a o, Vis (s.heap.objs.size :: H) ρ₂ s₂.heap a o → Vis H (ρ₂ ++ [s.heap.objs.size]) s₃.heap a o := fun a o z =>
    ⟨hk' a o (fun q => z.2.1 (q ▸ List.mem_cons_self)) z.1, fun q => z.2.1 (List.mem_cons_of_mem _ q), fun q => (List.mem_append.mp q).elim z.2.2 fun q => z.2.1 (List.mem_singleton.mp q ▸ List.mem_cons_self)⟩
  obtain ⟨c, hok, hC⟩ := hcell (Vis H (ρ₂ ++ [s.heap.objs.size]) h') (ρ₂ ++ [s.heap.objs.size]) h' s.heap.objs.size kvs _ hD (hkv'.mono hv' (Sub.append _ _))
  obtain ⟨B₃, _⟩ := Base.claim (s' := s₃) B₂ hdn hsys hk' hC
  refine ⟨_, _, ρ₂ ++ [s.heap.objs.size], p c hok, B₃, ?_, .loc (by rw [← B₂.len]; simp)⟩
  refine ⟨x₂.pre.trans (Sub.append _ _), fun b ob _ hb e => ?_, (fun _ q => nomatch q), x₂.gens, x₂.os⟩
  have hbd : b ≠ s.heap.objs.size := Nat.ne_of_lt (Heap.lt_size e)
  have z := x₂.keep b ob (fun q => nomatch q) hb (hk b ob e)
  exact ⟨hk' b ob hbd z.1, fun q => (List.mem_append.mp q).elim z.2 fun q => hbd (List.mem_singleton.mp q)⟩

theorem RVs.uncons {V : Vw} {ρ : List Addr} {x : AV} {l : List AV} {v : Value} {vs : List Value} (h : RVs V ρ (x :: l) (v :: vs)) : RV V ρ x v ∧ RVs V ρ l vs := by cases h with | cons a b => exact ⟨a, b⟩
theorem RV.strInv {V : Vw} {ρ : List Addr} {x : String} {v : Value} (h : RV V ρ (.str x) v) : ∃ t, v = .str (Str.ofString x) t := by cases h; exact ⟨_, rfl⟩
theorem RV.intInv {V : Vw} {ρ : List Addr} {x : Int} {v : Value} (h : RV V ρ (.int x) v) : ∃ t, v = .int x t := by cases h; exact ⟨_, rfl⟩
theorem Ev.dictS2 {k1 k2 v1 v2 : Expr} {pos : Pos} (h : EvPs g n sc [(k1, v1), (k2, v2)] lm μ fun l μ' => ∃ x y a b, l = [(.str x, a), (.str y, b)] ∧ x ≠ y ∧ P (.loc μ'.length) (μ' ++ [.dS [(x, a), (y, b)]]))
    (hkv : ∀ env, (evalEachOpt [some k1, some k2] env).zip ((evalEach [v1, v2] env).map fun v => do let x ← v; standAt pos; pure x) = (([(k1, v1), (k2, v2)].map fun p => (eval p.1 env, do let x ← eval p.2 env; standAt pos; pure x)).map fun p => (some p.1, p.2)) := by intro _; rfl) :
    Ev g n sc (.Dict [some k1, some k2] [v1, v2] pos) lm μ P := by
  refine dict_go (knd := strKind g.prog g.w) (R := fun k k' => Str.ofString k = k') hkv (by simp) (by simp) (fun kvs c => c = .dS kvs) (fun V ρ h d kvs kv' hD hK => ⟨_, rfl, kv', hD, hK⟩) ?_
  intro A env H ρ s pos' E hA O B F
  refine wpAny_mono (h A env H ρ s pos' E hA O B F) ?_ fun _ _ x => x
  rintro vs s₂ ⟨l, μ₂, ρ₂, ⟨x, y, a, b, rfl, hxy, p⟩, B₂, x₂, ra, rb, hl⟩
  refine ⟨_, μ₂, ρ₂, ⟨[(x, a), (y, b)], fun V ρ vs ra rb => ?_, fun c hc => by rw [hc]; exact p⟩, B₂, x₂, ra, rb, hl⟩
  rcases vs with _ | ⟨⟨k1, u1⟩, _ | ⟨⟨k2, u2⟩, _ | ⟨q, vs⟩⟩⟩
  · exact nomatch RVs.length ra
  · exact nomatch Nat.succ.inj (RVs.length ra)
  · obtain ⟨r1, r2⟩ := RVs.uncons ra
    obtain ⟨r2, -⟩ := RVs.uncons r2
    obtain ⟨r3', r4⟩ := RVs.uncons rb
    obtain ⟨r4', -⟩ := RVs.uncons r4
    dsimp only at r1 r2 r3' r4'
    obtain ⟨_, rfl⟩ := RV.strInv r1
    obtain ⟨_, rfl⟩ := RV.strInv r2
    have hne : ¬ Str.ofString x = Str.ofString y := fun q => hxy (ofS_inj q)
    refine ⟨[(Str.ofString x, u1), (Str.ofString y, u2)], ⟨strKind_is _ _ _ _, rfl, strKind_is _ _ _ _, rfl, trivial⟩, ?_⟩
    have e : merged [] [(Str.ofString x, u1), (Str.ofString y, u2)] = [(Str.ofString x, u1), (Str.ofString y, u2)] := by
      simp [merged, stored, hne]
    rw [e]
    exact ⟨rfl, r3', rfl, r4', trivial⟩
  · exact nomatch Nat.succ.inj (Nat.succ.inj (RVs.length ra))
theorem Ev.dictI1 {k1 v1 : Expr} {pos : Pos} (h : EvPs g n sc [(k1, v1)] lm μ fun l μ' => ∃ x a, l = [(.int x, a)] ∧ ∀ ep, P (.loc μ'.length) (μ' ++ [.dI [(x, a)] ep]))
    (hkv : ∀ env, (evalEachOpt [some k1] env).zip ((evalEach [v1] env).map fun v => do let x ← v; standAt pos; pure x) = (([(k1, v1)].map fun p => (eval p.1 env, do let x ← eval p.2 env; standAt pos; pure x)).map fun p => (some p.1, p.2)) := by intro _; rfl) :
    Ev g n sc (.Dict [some k1] [v1] pos) lm μ P := by
  refine dict_go (knd := intKind g.prog g.w) (R := (· = ·)) hkv (by simp) (by simp) (fun kvs c => ∃ ep, c = .dI kvs ep) (fun V ρ h d kvs kv' hD hK => ?_) ?_
  · obtain ⟨ep, hD'⟩ := hD.dictAt
    exact ⟨_, ⟨ep, rfl⟩, kv', hD', hK⟩
  intro A env H ρ s pos' E hA O B F
  refine wpAny_mono (h A env H ρ s pos' E hA O B F) ?_ fun _ _ x => x
  rintro vs s₂ ⟨l, μ₂, ρ₂, ⟨x, a, rfl, p⟩, B₂, x₂, ra, rb, hl⟩
  refine ⟨_, μ₂, ρ₂, ⟨[(x, a)], fun V ρ vs ra rb => ?_, fun c hc => by obtain ⟨ep, rfl⟩ := hc; exact p ep⟩, B₂, x₂, ra, rb, hl⟩
  rcases vs with _ | ⟨⟨k1, u1⟩, _ | ⟨q, vs⟩⟩
  · exact nomatch RVs.length ra
  · obtain ⟨r1, -⟩ := RVs.uncons ra
    obtain ⟨r3', -⟩ := RVs.uncons rb
    dsimp only at r1 r3'
    obtain ⟨_, rfl⟩ := RV.intInv r1
    refine ⟨[(x, u1)], ⟨by simp [intKind, Value.isInt], rfl, trivial⟩, ?_⟩
    have e : merged [] [(x, u1)] = [(x, u1)] := by simp [merged, stored]
    rw [e]
    exact ⟨rfl, r3', trivial⟩
  · exact nomatch Nat.succ.inj (RVs.length ra)
end
end
section
open PySem PySem.Spec PySem.Calls PyProof.Rows PySem.W PySem.SeqAt

theorem lookup_of_memN : ∀ {cs : List (Str × Value)} {n : Str} {c : Value}, (cs.map (·.1)).Nodup → (n, c) ∈ cs → cs.lookup n = some c
  | (n', c') :: cs, n, c, hnd, hm => by
    rw [List.map_cons, List.nodup_cons] at hnd
    rcases List.mem_cons.mp hm with e | hm
    · cases e; simp
    · have : n ≠ n' := fun e => hnd.1 (e ▸ List.mem_map.mpr ⟨(n, c), hm, rfl⟩)
      have q : (n == n') = false := by simpa using this
      rw [List.lookup_cons, q]
      exact lookup_of_memN hnd.2 hm
theorem zip_mem {V : Vw} {ρ : List Addr} : ∀ {names : List String} {args : List AV} {vs : List Value} {x : String} {a : AV}, RVs V ρ args vs → (names.zip args).lookup x = some a → ∃ v, (Str.ofString x, v) ∈ (names.map Str.ofString).zip vs ∧ RV V ρ a v
  | [], _, _, _, _, _, h => by simp at h
  | _ :: _, _, _, _, _, .nil, h => by simp at h
  | y :: names, b :: args, v :: vs, x, a, .cons h r, e => by
    simp only [List.zip_cons_cons, List.lookup_cons] at e
    simp only [List.map_cons, List.zip_cons_cons]
    by_cases q : x == y
    · simp only [q] at e; cases e
      rw [eq_of_beq q]
      exact ⟨v, List.mem_cons_self, h⟩
    · simp only [q] at e
      obtain ⟨u, hu, ru⟩ := zip_mem r e
      exact ⟨u, List.mem_cons_of_mem _ hu, ru⟩
theorem zip_keys : ∀ {names : List String} {vs : List Value}, names.Nodup → vs.length = names.length → (((names.map Str.ofString).zip vs).map (·.1)).Nodup
  | [], _, _, _ => by simp
  | y :: names, [], _, h => by simp at h
  | y :: names, v :: vs, hn, h => by
    have hn' := List.nodup_cons.mp hn
    simp only [List.map_cons, List.zip_cons_cons]
    refine List.nodup_cons.mpr ⟨fun q => ?_, zip_keys hn'.2 (by simpa using h)⟩
    obtain ⟨p, hp, e⟩ := List.mem_map.mp q
    obtain ⟨z, hz, e'⟩ := List.mem_map.mp (List.of_mem_zip (a := p.1) (b := p.2) hp).1
    exact hn'.1 (ofS_inj (e'.trans e) ▸ hz)

theorem mem_of_lookupK {l : List (Str × NameKind)} {x : Str} {k : NameKind} (h : l.lookup x = some k) : (x, k) ∈ l := by
  induction l with
  | nil => simp at h
  | cons p r ih =>
    obtain ⟨y, d⟩ := p
    simp only [List.lookup_cons] at h
    by_cases q : x == y
    · simp only [q] at h; cases h; rw [eq_of_beq q]; exact List.mem_cons_self
    · simp only [q] at h; exact List.mem_cons_of_mem _ (ih h)
section
variable {g : Gd} {n : Nat} {μ : List Cell} {P : AV → List Cell → Prop}

/-- an `__init__` whose first line is `super().__init__(..)` -/
theorem CallC.superInit {f C D i f2 cc cda : Addr} {ii : Nat} {kvs : List (String × AV)} {name qual x1 : Str} {params : Arguments} {rest : List Stmt} {scope : Scope} {dV kV doc pm ct oc ccl cl : Value} {an od cdd cld : Option Addr} {osl ccs csl : Array (Option Value)}
    {vsC : Array Value} {file : Str} {tf : Tok} {cdD : ClassData} {ar : Arg} {e1 : Expr} {es : List Expr} {p0 p1 apos cpos epos : Pos} {args : List AV}
    (names : List String)
    (ho : g.K.lookup f = some ⟨oc, od, .func (ksFn name qual params (.Expr (.Call (.Attribute (.Call (.Name "super" p0) [] [] p1) x1 apos) (e1 :: es) [] cpos) epos :: rest) scope dV kV doc pm an (.ref cda) ct cc), osl⟩)
    (hcd : codeIn g.K (.ref cda) qual = true)
    (hbind : ∀ vs : List Value, vs.length = names.length → bindArgs (ksFn name qual params (.Expr (.Call (.Attribute (.Call (.Name "super" p0) [] [] p1) x1 apos) (e1 :: es) [] cpos) epos :: rest) scope dV kV doc pm an (.ref cda) ct cc) ⟨vs, []⟩ = pure ((names.map Str.ofString).zip vs))
    (hlen : (AV.obj C ii :: args).length = names.length) (hnn : names.Nodup)
    (hkind : (names.all fun y => scope.names.lookup (Str.ofString y) == some .local) = true)
    (hnc : (scope.names.all fun p => p.2 != .cell) = true)
    (hp : (params.posonlyargs ++ params.args).head? = some ar) (har : ar.arg = Str.ofString "self") (hself : names.head? = some "self")
    (hcode : g.K.lookup cda = some ⟨ccl, cdd, .fields vsC, ccs⟩) (hvs : vsC[2]? = some (.str file tf)) (hfile : ((g.prog.main.file : Str) == file) = true)
    (hcell : g.K.lookup cc = some ⟨cl, cld, .cell (some (.ref D)), csl⟩) (hD : clsIn g.K D = some cdD) (hsub : mroIn g.K C (.ref D) = some true) (hsuper : nsIn g.K mainGlobals "super" = some none)
    (hat : (x1 == ("__class__" : Str)) = false) (hks : scope.names.lookup ("super" : Str) = some .globalImplicit) (hkc : scope.names.lookup ("__class__" : Str) = some .free) (hka : scope.names.lookup ar.arg = some .local)
    (htop : (g.prog.main.scope.names.lookup ("super" : Str)).isSome = false) (hboot : bootBuiltins "super" = some (.type "super"))
    (hop : nsIn g.K cStatics "thirdparty.any" = some none) (hm : ks_superIn g.K C D x1 = some (some (.ref f2))) (ht : typeIn g.K (.ref f2) = some (.type "function")) (hf2 : fnIn g.K f2 = true)
    (hi : μ[ii]? = some (.att kvs))
    (hbody : Evs g n scope (e1 :: es) (names.zip (AV.obj C ii :: args)) μ fun l μ₁ => CallC g n (.ref f2) (.obj C ii :: l) μ₁ fun _ μ₂ => Exs g n scope rest (names.zip (AV.obj C ii :: args)) μ₂ (RetP P))
    (hev : ∀ env, ∃ pl, eval (.Call (.Attribute (.Call (.Name "super" p0) [] [] p1) x1 apos) (e1 :: es) [] cpos) env = (do
      let ov ← attributeBase (.Call (.Name "super" p0) [] [] p1) x1 env (eval (.Call (.Name "super" p0) [] [] p1) env)
      standAt apos.atName
      let (f, first) ← holding [ov] (getMethod ov x1 pl)
      callWith cpos f first (backTo cpos (starEach (e1 :: es) env)) []) := by intro _; exact ⟨_, rfl⟩)
    (hse : ∀ env, starEach (e1 :: es) env = (false, eval e1 env) :: starEach es env := by intro _; rfl) (hplain : ∀ env, (backTo cpos (starEach es env)).any (·.1) = false := by intro _; rfl)
    (hco : scope.isCoroutine = false := by rfl) (hgen : scope.isGenerator = false := by rfl) (hk : scope.kind = .function := by rfl) : CallC g (n + 1) (.ref f) (.obj C ii :: args) μ P := by
  cases names with
  | nil => cases hself
  | cons nm names' =>
  cases hself
  intro A H ρ s vs R hA B hR hRR
  cases hR with
  | @cons _ vx _ vs' rx r' =>
  have hR : RVs (Vis H ρ s.heap) ρ (AV.obj C ii :: args) (vx :: vs') := .cons rx r'
  have hvl : (vx :: vs').length = ("self" :: names').length := hR.length.trans hlen
  have hnc' : ∀ x ∈ scope.names, x.2 ≠ .cell := fun x hx => by simpa using List.all_eq_true.mp hnc x hx
  have hloc : ∀ p ∈ (("self" :: names').map Str.ofString).zip (vx :: vs'), scope.names.lookup p.1 = some .local := fun p hp => by
    obtain ⟨y, hy, e⟩ := List.mem_map.mp (List.of_mem_zip (a := p.1) (b := p.2) hp).1
    have := List.all_eq_true.mp hkind y hy
    rw [← e]; simpa using this
  refine ks_codeAny_call_defAt hA.room (B.K _ _ ho) rfl B.nolimit (codeRec_of B.K hcd) rfl (BindsTo.of_eq (hbind (vx :: vs') hvl)) hnc' hloc (fun h₁ hns hkeep => ?_) hco hgen hk
  let env : Env := callEnv (ksFn name qual params (.Expr (.Call (.Attribute (.Call (.Name "super" p0) [] [] p1) x1 apos) (e1 :: es) [] cpos) epos :: rest) scope dV kV doc pm an (.ref cda) ct cc) s.heap.objs.size f
  let s₁ : Shared := { s with heap := h₁, toks := s.toks + ((("self" :: names').map Str.ofString).zip (vx :: vs')).length }
  have hoc : ocells env = [] := by
    show (List.filter (fun p => Env.kindOf env p.1 == some .cell) [(("__class__" : Str), cc)]).map (·.2) = []
    have : (Env.kindOf env ("__class__" : Str) == some .cell) = false := by
      show (scope.names.lookup ("__class__" : Str) == some .cell) = false
      rw [hkc]; rfl
    rw [List.filter_cons, this]; rfl
  have hown : own env = [s.heap.objs.size] := by unfold own; rw [hoc]; rfl
  obtain ⟨B₁, hv₁⟩ := B.enter (O := [s.heap.objs.size]) (s' := s₁) hkeep (fun b hb => by rw [List.mem_singleton.mp hb]; exact push_none _) (fun b hb => by rw [List.mem_singleton.mp hb]; exact ns_there hns)
  have R₁ := hR.mono hv₁ (Sub.refl _)
  have x₁ : Ext [] ρ ρ s s₁ := Ext.keeps hkeep rfl rfl
  have hkeys := zip_keys (names := "self" :: names') (vs := vx :: vs') hnn hvl
  have hlk : ∀ x a, (("self" :: names').zip (AV.obj C ii :: args)).lookup x = some a → ∃ v, ((("self" :: names').map Str.ofString).zip (vx :: vs')).reverse.lookup (Str.ofString x) = some v ∧ RV (Vis ([s.heap.objs.size] ++ H) ρ s₁.heap) ρ a v := fun x a e => by
    obtain ⟨v, hm, rv⟩ := zip_mem R₁ e
    exact ⟨v, lookup_of_memN (by rw [List.map_reverse]; exact List.pairwise_reverse.mpr (hkeys.imp fun h => h.symm)) (List.mem_reverse.mpr hm), rv⟩
  have F₁ : FrameAt env (("self" :: names').zip (AV.obj C ii :: args)) ([s.heap.objs.size] ++ H) ρ s₁.heap := by
    refine ⟨⟨_, hns, fun x hx => ?_⟩, fun x hx => ?_⟩
    · cases e : (("self" :: names').zip (AV.obj C ii :: args)).lookup x with
      | none => trivial
      | some a =>
        obtain ⟨v, hv, rv⟩ := hlk x a e
        show ROpt _ _ _ (((("self" :: names').map Str.ofString).zip (vx :: vs')).reverse.lookup (Str.ofString x))
        rw [hv]; exact rv
    · have hx' : scope.names.lookup (Str.ofString x) = some .cell := hx
      exact absurd rfl (hnc' _ (mem_of_lookupK hx'))
  have hok : OwnOk env := ⟨fun q => (by rw [hoc] at q; cases q), fun x y c hx _ _ _ => by
    have hx' : scope.names.lookup x = some .cell := hx
    exact absurd rfl (hnc' _ (mem_of_lookupK hx'))⟩
  have O₁ : EnvOk scope env ([s.heap.objs.size] ++ H) := ⟨rfl, hk, rfl, rfl, List.mem_append_left _ List.mem_cons_self, fun a ha => (by rw [hoc] at ha; cases ha), hok⟩
  have Fn : FnEnv (A.deeper env) env := ⟨hok, by
    obtain ⟨l, hl⟩ := hA.frames
    exact ⟨l, by simp [Around.deeper, hl]⟩⟩
  have hA' : OkA n (A.deeper env) := hA.deeper
  -- self
  have hBi := B₁
  obtain ⟨x, dx, od', m', rfl, hdx, hnsx, hro, hw, I, hod, hl, hox⟩ := obj_at B₁ hi (rx.mono hv₁ (Sub.refl _))
  have hsl : ((("self" :: names').map Str.ofString).zip (Value.ref x :: vs')).reverse.lookup (Str.ofString "self") = some (.ref x) :=
    lookup_of_memN (by rw [List.map_reverse]; exact List.pairwise_reverse.mpr (hkeys.imp fun h => h.symm)) (List.mem_reverse.mpr List.mem_cons_self)
  obtain ⟨oD, hD1, hD2⟩ : ∃ oD, h₁.get? D = some oD ∧ oD.data = .cls cdD := by
    unfold clsIn at hD
    split at hD
    · rename_i c d cd' sl ho'
      cases hD
      exact ⟨_, B₁.K _ _ ho', rfl⟩
    · cases hD
  have last : ∀ (fl : Fl) (fw : Flow) (lm' : Lm) (μ' : List Cell) (ρ' : List Addr) (s' : Shared), RetP P fl lm' μ' → Base g ([s.heap.objs.size] ++ H) μ' ρ' s' → Ext (own env) ρ ρ' s₁ s' → RFl (Vis ([s.heap.objs.size] ++ H) ρ' s'.heap) ρ' fl fw → R (.ok (.ret (match fw with | .ret v => v | _ => .none))) s' := by
    intro fl fw lm' μ' ρ' s' q B' y r
    have hx : Ext [] ρ ρ' s s' := by
      refine ⟨y.pre, fun b o _ hb e => ?_, (fun _ q => nomatch q), y.gens, y.os⟩
      exact y.keep b o (fun q => by rw [hown] at q; rw [List.mem_singleton.mp q, push_none] at e; cases e) hb (hkeep b o e)
    have hl : ∀ (a : AV) (v : Value), P a μ' → RV (Vis ([s.heap.objs.size] ++ H) ρ' s'.heap) ρ' a v → Post g H [] ρ s P v s' := fun a v p r => ⟨a, μ', ρ', p, B'.leave, hx, r.less⟩
    cases fl with
    | next => cases fw with
      | next => exact hRR _ _ (hl .none .none q .none)
      | _ => exact r.elim
    | ret a => cases fw with
      | ret v => exact hRR _ _ (hl a v q r)
      | _ => exact r.elim
    | brk => exact q.elim
    | cont => exact q.elim
  obtain ⟨pl, hev'⟩ := hev env
  refine ks_wpAt_execs_cons (ks_wpAt_Expr_any (ks_wpAt_MethodCall (pl := pl) ?_ hev') (by unfold interactive; show (scope.kind == _ && _) = false; rw [hk]; rfl) (by rfl))
  refine ks_wpAt_super_base (env := env) (fd := ksFn name qual params (.Expr (.Call (.Attribute (.Call (.Name "super" p0) [] [] p1) x1 apos) (e1 :: es) [] cpos) epos :: rest) scope dV kV doc pm an (.ref cda) ct cc) hks hkc hat rfl (B₁.K _ _ ho) rfl hp rfl (B₁.K _ _ hcode) rfl hvs hfile htop ?_
  refine ks_loadName_global hk hks (loadGlobal_builtin (env := env) B₁.gl (mg_none_of B.ok.K B.ok.gl hsuper) B₁.bl ((B.ok.builtins _ (by decide +kernel)).trans hboot) ⟨rfl, ?_⟩)
  refine wpAny_loadName_free hk hkc rfl ⟨_, B₁.K _ _ hcell, rfl⟩ ?_
  refine wpAny_loadName_local hk hka hns (by rw [har]; exact hsl) ?_
  refine ks_wpAny_isType_cls hD1 hD2 ⟨rfl, ?_⟩
  refine ks_wpAny_call_super hD1 hD2 I.at_ I.cls (fun c e => ?_) (looks_mroIn B₁.K hsub) (fun h₂ eso k₂ => ?_)
  · cases e
  let s₂ : Shared := { s₁ with heap := h₂ }
  have B₂ : Base g ([s.heap.objs.size] ++ H) μ ρ s₂ := B₁.keeps k₂
  have x₂ : Ext [] ρ ρ s₁ s₂ := Ext.keeps k₂ rfl rfl
  obtain ⟨cdC, hcC⟩ : ∃ cd, clsIn g.K C = some cd := by
    unfold ks_superIn at hm
    cases z : clsIn g.K C with
    | none => rw [z] at hm; cases hm
    | some cd => exact ⟨cd, rfl⟩
  have hm' : alongIn g.K x1 ((cdC.mro.dropWhile (· != .ref D)).drop 1) = some (some (.ref f2)) := by
    unfold ks_superIn at hm
    rw [hcC] at hm
    exact hm
  obtain ⟨of, hof, hofc⟩ : ∃ of, h₂.get? f2 = some of ∧ of.cls = .type "function" := by
    have ht' : (g.K.lookup f2).map (·.cls) = some (.type "function") := ht
    cases z : g.K.lookup f2 with
    | none => rw [z] at ht'; cases ht'
    | some of => rw [z] at ht'; exact ⟨of, B₂.K _ _ z, Option.some.inj ht'⟩
  have I₂ : InstAt h₂ x { cls := .ref C, dict := some dx, data := .plain } C (some od') := ⟨k₂ _ _ I.at_, rfl, rfl, k₂ _ _ hod⟩
  refine ks_wpAny_getMethod_super (h := h₂) eso (looks_opaque B₂.K hop) (l₀ := cdC.mro) (fun A Q E s k q => wpAny_bind ((looks_clsIn (h := h₂) B₂.K hcC) A _ E s k (wpAny_pure q))) rfl B₂.K hm' hof hofc (ks_ne (h := h₂) B₂.K I₂ hcC) hat ?_
  have k₃ := push_keep h₂ { cls := .type "method", data := .fields #[.ref f2, .ref x] }
  have hq₃ : (h₂.push { cls := .type "method", data := .fields #[.ref f2, .ref x] }).get? h₂.objs.size = some (methodObj (.ref f2) (.ref x)) := Heap.get?_push_size _ rfl
  let s₃ : Shared := { s₂ with heap := h₂.push { cls := .type "method", data := .fields #[.ref f2, .ref x] }, toks := s₂.toks + 1 }
  have B₃ : Base g ([s.heap.objs.size] ++ H) μ ρ s₃ := B₂.keeps k₃
  have x₁₃ : Ext [] ρ ρ s₁ s₃ := x₂.trans (Ext.keeps k₃ rfl rfl)
  have F₃ := F₁.ext0 B₁ O₁ x₁₃
  have hqρ : h₂.objs.size ∉ ρ := B₂.freshρ
  have evs := hbody (A.deeper env) env ([s.heap.objs.size] ++ H) ρ s₃ cpos
  show wpAny _ _ (callWith cpos (.ref h₂.objs.size) [] (backTo cpos (starEach (e1 :: es) env)) []) _ _ s₃
  have hpl : ((backTo cpos (starEach (e1 :: es) env)).any (·.1) || ([] : List (Option Str × Sem Value)).any (·.1.isNone)) = false := by
    rw [hse env]
    show ((false || (backTo cpos (starEach es env)).any (·.1)) || false) = false
    rw [hplain env]; rfl
  refine callWith_of (P := fun h => MethP g.K h₂.objs.size f2 (.ref x) h) hpl (fun h X => keeps_M hf2 h X) ?_
  have evs' := evs (fun e s' => wpAny (model g.prog g.w) (A.deeper env) (leaving env e) (fun _ s'' => R (.error e) s'') (fun e' s'' => R (.error e') s'') s') hA' O₁ B₃ F₃
  rw [hse env] at evs' ⊢
  refine evalArgs_plain (wpAny_mono evs' ?_ fun _ _ z => z)
  rintro vs₄ s₄ ⟨l, μ₄, ρ₄, h₄, B₄, x₄, r₄⟩
  have hq₄ : s₄.heap.get? h₂.objs.size = some (methodObj (.ref f2) (.ref x)) := (x₄.keep _ _ (fun q => nomatch q) hqρ hq₃).1
  refine ⟨⟨hq₄, B₄.K⟩, ?_⟩
  refine wpAny_call (ks_codeAny_call_bound hq₄ ?_)
  have rx₄ : RV (Vis ([s.heap.objs.size] ++ H) ρ₄ s₄.heap) ρ₄ (.obj C ii) (.ref x) := x₄.rv0 (x₁₃.rv0 (rx.mono hv₁ (Sub.refl _)))
  refine h₄ (A.deeper env) _ ρ₄ s₄ (.ref x :: vs₄) _ hA' B₄ (.cons rx₄ r₄) ?_
  rintro v s₅ ⟨a, μ₅, ρ₅, h₅, B₅, x₅, r₅⟩
  have x₁₅ := (x₁₃.trans x₄).trans x₅
  refine wpAt_of_wpAny (wpAny_mono (h₅ (A.deeper env) env _ ρ₅ s₅ _ hA' O₁ Fn B₅ (F₁.ext0 B₁ O₁ x₁₅)) ?_ fun _ _ z => z)
  rintro fw s₆ ⟨fl, lm₆, μ₆, ρ₆, q₆, B₆, F₆, x₆, r₆⟩
  exact last fl fw lm₆ μ₆ ρ₆ s₆ q₆ B₆ ((x₁₅.own B₁ O₁).trans x₆) r₆
end
theorem exInt {i : Int} {Q : Int → Prop} (h : Q i) : ∃ j, AV.int i = .int j ∧ Q j := ⟨i, rfl, h⟩
theorem exTup {k : Nat} {l : List AV} {Q : List AV → Prop} (hk : l.length = k) (h : Q l) : ∃ m, AV.tup l = .tup m ∧ m.length = k ∧ Q m := ⟨l, rfl, hk, h⟩
theorem szL {α : Type} {l : List α} (h : l.length.ble 1000 = true) : l.length ≤ PySem.sizeLine := Nat.le_trans (Nat.le_of_ble_eq_true h) (by decide)
theorem tupOk {l : List AV} {Q : Prop} (h : l.length.ble 1000 = true) (q : Q) : l.length ≤ PySem.sizeLine ∧ Q := ⟨szL h, q⟩
theorem listOk {l : List AV} {Q : Prop} (h : l.length ≤ PySem.sizeLine) (q : Q) : l.length ≤ PySem.sizeLine ∧ Q := ⟨h, q⟩
open PySem
theorem ltL {α : Type} {l : List α} (h : l.length.ble 900 = true) : l.length < 1000 := Nat.lt_of_le_of_lt (Nat.le_of_ble_eq_true h) (by decide)

/-- the store's state -/
structure St where
  doms : List AV
  firsts : List AV
  trail : List AV
  marks : List AV
  news : List (Int × AV)
  ep : Nat
  failed : Bool
  clash : List AV
noncomputable def attS (b : Nat) (σ : St) : List (String × AV) :=
  [("domains", .loc (b + 1)), ("firsts", .loc (b + 2)), ("trail", .loc (b + 3)), ("marks", .loc (b + 4)), ("news", .loc (b + 5)), ("speaker", .int (-1)), ("is_failed", .bool σ.failed), ("clash", .tup σ.clash)]
noncomputable def cellsS (b : Nat) (σ : St) : List Cell := [.att (attS b σ), .lst σ.doms, .lst σ.firsts, .lst σ.trail, .lst σ.marks, .dI σ.news σ.ep]
noncomputable def wr (μ₀ : List Cell) (σ : St) (G : List Cell) : List Cell := μ₀ ++ (cellsS μ₀.length σ ++ G)
section
variable {μ₀ : List Cell} {σ : St} {G : List Cell}
theorem wr_at (k : Nat) : (wr μ₀ σ G)[μ₀.length + k]? = (cellsS μ₀.length σ ++ G)[k]? := by
  unfold wr
  rw [List.getElem?_append_right (Nat.le_add_right _ _), Nat.add_sub_cancel_left]
theorem wr0 : (wr μ₀ σ G)[μ₀.length]? = some (.att (attS μ₀.length σ)) := wr_at 0
theorem wr1 : (wr μ₀ σ G)[μ₀.length + 1]? = some (.lst σ.doms) := wr_at 1
theorem wr2 : (wr μ₀ σ G)[μ₀.length + 2]? = some (.lst σ.firsts) := wr_at 2
theorem wr3 : (wr μ₀ σ G)[μ₀.length + 3]? = some (.lst σ.trail) := wr_at 3
theorem wr4 : (wr μ₀ σ G)[μ₀.length + 4]? = some (.lst σ.marks) := wr_at 4
theorem wr5 : (wr μ₀ σ G)[μ₀.length + 5]? = some (.dI σ.news σ.ep) := wr_at 5
theorem wrG {j : Nat} {c : Cell} (h : G[j]? = some c) : (wr μ₀ σ G)[μ₀.length + (6 + j)]? = some c := by
  rw [wr_at]
  rw [List.getElem?_append_right (by show 6 ≤ 6 + j; omega)]
  have : 6 + j - (cellsS μ₀.length σ).length = j := by show 6 + j - 6 = j; omega
  rw [this]; exact h
theorem wr_set (k : Nat) (c : Cell) : (wr μ₀ σ G).set (μ₀.length + k) c = μ₀ ++ (cellsS μ₀.length σ ++ G).set k c := by
  unfold wr
  rw [List.set_append_right _ _ (Nat.le_add_right _ _), Nat.add_sub_cancel_left]
theorem wr_set1 {l : List AV} : (wr μ₀ σ G).set (μ₀.length + 1) (.lst l) = wr μ₀ { σ with doms := l } G := wr_set 1 _
theorem wr_set2 {l : List AV} : (wr μ₀ σ G).set (μ₀.length + 2) (.lst l) = wr μ₀ { σ with firsts := l } G := wr_set 2 _
theorem wr_set3 {l : List AV} : (wr μ₀ σ G).set (μ₀.length + 3) (.lst l) = wr μ₀ { σ with trail := l } G := wr_set 3 _
theorem wr_set4 {l : List AV} : (wr μ₀ σ G).set (μ₀.length + 4) (.lst l) = wr μ₀ { σ with marks := l } G := wr_set 4 _
theorem wr_set5 {l : List (Int × AV)} {ep : Nat} : (wr μ₀ σ G).set (μ₀.length + 5) (.dI l ep) = wr μ₀ { σ with news := l, ep := ep } G := wr_set 5 _
theorem wr_set0 {f : Bool} {c : List AV} : (wr μ₀ σ G).set μ₀.length (.att (attS μ₀.length { σ with failed := f, clash := c })) = wr μ₀ { σ with failed := f, clash := c } G := wr_set 0 _
theorem wr_app {l : List Cell} : wr μ₀ σ G ++ l = wr μ₀ σ (G ++ l) := by
  unfold wr
  simp [List.append_assoc]
theorem wr_len : (wr μ₀ σ G).length = μ₀.length + (6 + G.length) := by
  unfold wr cellsS
  simp; omega
end
noncomputable def dm (lo hi : Int) : AV := .tup [.tup [.int lo, .int hi]]
open PySem
section
variable {g : Gd} {n : Nat} {sc : Scope} {lm : Lm} {μ : List Cell} {fn : Bool} {Q : Lm → List Cell → Prop}
theorem StoIn.rev2 {a b : String} {x y : AV} (h : StoIn g n sc fn [b, a] [y, x] lm μ Q) : StoIn g n sc fn [a, b].reverse [x, y].reverse lm μ Q := h
theorem StoIn.rev3 {a b c : String} {x y z : AV} (h : StoIn g n sc fn [c, b, a] [z, y, x] lm μ Q) : StoIn g n sc fn [a, b, c].reverse [x, y, z].reverse lm μ Q := h
end
theorem iteT {b : Bool} {A B : Prop} (hb : b = true) (h : A) : (b = true → A) ∧ (b = false → B) := ⟨fun _ => h, fun e => by rw [hb] at e; cases e⟩
theorem iteF {b : Bool} {A B : Prop} (hb : b = false) (h : B) : (b = true → A) ∧ (b = false → B) := ⟨(fun e => by rw [hb] at e; cases e), fun _ => h⟩
theorem iteF' {b : Bool} {A B : Prop} (hb : b = false) (h : A) : (b = false → A) ∧ (b = true → B) := ⟨fun _ => h, fun e => by rw [hb] at e; cases e⟩
theorem iteT' {b : Bool} {A B : Prop} (hb : b = true) (h : B) : (b = false → A) ∧ (b = true → B) := ⟨(fun e => by rw [hb] at e; cases e), fun _ => h⟩
end
section
open PySem PySem.Spec PySem.Calls PyProof.Rows PySem.W PySem.SeqAt
section
variable {g : Gd} {n : Nat} {sc : Scope} {lm : Lm} {μ : List Cell} {Q : Fl → Lm → List Cell → Prop}
theorem Tst.weaken {e : Expr} {lm' : Lm} {P : Bool → List Cell → Prop} (h : Tst g n sc e lm' μ P) (hl : ∀ x a, lm'.lookup x = some a → lm.lookup x = some a) : Tst g n sc e lm μ P :=
  fun A env H ρ s E hA O B F => h A env H ρ s E hA O B (F.weaken hl)
theorem Asg.weaken {fn : Bool} {t : Expr} {a : AV} {lm' : Lm} {P : Lm → List Cell → Prop} (h : Asg g n sc fn t a lm' μ P) (hl : ∀ x a, lm'.lookup x = some a → lm.lookup x = some a) : Asg g n sc fn t a lm μ P :=
  fun A env H ρ s v E hA O ok B F r => h A env H ρ s v E hA O ok B (F.weaken hl) r
theorem Ex.whileB {test : Expr} {body : List Stmt} {pos : Pos} (base : Lm) (I : Nat → List Cell → Prop) (k : Nat) (hb : Inc base lm) (hI : I k μ)
    (turn : ∀ k μ, I k μ → Tst g n sc test base μ fun b μ₁ => (b = true → Exs g n sc body base μ₁ fun f lm' μ' => match f with
        | .next | .cont => Inc base lm' ∧ ∃ m, m < k ∧ I m μ'
        | .brk => Q .next lm' μ'
        | .ret a => Q (.ret a) lm' μ') ∧ (b = false → ∀ lm', Inc base lm' → Q .next lm' μ₁)) : Ex g n sc (.While test body [] pos) lm μ Q := by
  refine Ex.while (fun k lm' μ' => Inc base lm' ∧ I k μ') k ⟨hb, hI⟩ ?_
  rintro k lm₁ μ₁ ⟨hl, hk⟩
  refine Tst.weaken ((turn k μ₁ hk).mono fun b μ₂ h => ⟨fun hb' => Exs.weaken ((h.1 hb').mono ?_) hl.look, fun hb' => h.2 hb' _ hl⟩) hl.look
  intro f l m q
  cases f with
  | next => obtain ⟨q1, m', q2, q3⟩ := q; exact ⟨m', q2, q1, q3⟩
  | cont => obtain ⟨q1, m', q2, q3⟩ := q; exact ⟨m', q2, q1, q3⟩
  | brk => exact q
  | ret a => exact q
theorem EvI.mono {tgt e : Expr} {P P' : List AV → (List Cell → Prop) → List Cell → Prop} (h : EvI g n sc tgt e lm μ P) (hP : ∀ i nd m, P i nd m → P' i nd m) : EvI g n sc tgt e lm μ P' := by
  intro A env H ρ s E hA O B F
  refine wpAny_mono (h A env H ρ s E hA O B F) (fun x s₁ h₁ => wpAny_mono h₁ ?_ fun _ _ x => x) fun _ _ x => x
  rintro it s₂ ⟨items, need, μ₂, ρ₂, O', St, hp, r⟩
  exact ⟨items, need, μ₂, ρ₂, O', St, hP _ _ _ hp, r⟩
theorem Ex.forB {tgt iter : Expr} {body : List Stmt} {pos : Pos} (base : Lm) (hb : Inc base lm)
    (h : EvI g n sc tgt iter lm μ fun items need μ₁ => ∃ I : Nat → List Cell → Prop, I 0 μ₁ ∧ (∀ i μ', I i μ' → need μ') ∧
      (∀ i a μ', items[i]? = some a → I i μ' → Asg g n sc true tgt a base μ' fun lm'' μ'' => Exs g n sc body lm'' μ'' fun f l m => match f with
        | .next | .cont => Inc base l ∧ I (i + 1) m
        | .brk => Q .next l m
        | .ret a => Q (.ret a) l m) ∧ (∀ lm' μ', Inc base lm' → I items.length μ' → Q .next lm' μ'))
    (hs : ∀ env x, foldedSetIterable iter env x = pure x := by intro _ _; rfl) : Ex g n sc (.For tgt iter body [] pos) lm μ Q := by
  refine Ex.for (h.mono ?_) hs
  rintro items need μ₁ ⟨I, h0, hn, ht, he⟩
  refine ⟨fun i l m => Inc base l ∧ I i m, ⟨hb, h0⟩, fun i l m q => hn i m q.2, ?_, fun l m q => he l m q.1 q.2⟩
  rintro i a l m hi ⟨hl, hI⟩
  exact Asg.weaken (ht i a m hi hI) hl.look
theorem Ex.whileS {test : Expr} {body : List Stmt} {pos : Pos} {S : Type} (base : S → Lm) (I : Nat → S → List Cell → Prop) (k : Nat) (s : S) (hb : Inc (base s) lm) (hI : I k s μ)
    (turn : ∀ k s μ, I k s μ → Tst g n sc test (base s) μ fun b μ₁ => (b = true → Exs g n sc body (base s) μ₁ fun f lm' μ' => match f with
        | .next | .cont => ∃ s', Inc (base s') lm' ∧ ∃ m, m < k ∧ I m s' μ'
        | .brk => Q .next lm' μ'
        | .ret a => Q (.ret a) lm' μ') ∧ (b = false → ∀ lm', Inc (base s) lm' → Q .next lm' μ₁)) : Ex g n sc (.While test body [] pos) lm μ Q := by
  refine Ex.while (fun k lm' μ' => ∃ s, Inc (base s) lm' ∧ I k s μ') k ⟨s, hb, hI⟩ ?_
  rintro k lm₁ μ₁ ⟨s, hl, hk⟩
  refine Tst.weaken ((turn k s μ₁ hk).mono fun b μ₂ h => ⟨fun hb' => Exs.weaken ((h.1 hb').mono ?_) hl.look, fun hb' => h.2 hb' _ hl⟩) hl.look
  intro f l m q
  cases f with
  | next => obtain ⟨s', q1, m', q2, q3⟩ := q; exact ⟨m', q2, s', q1, q3⟩
  | cont => obtain ⟨s', q1, m', q2, q3⟩ := q; exact ⟨m', q2, s', q1, q3⟩
  | brk => exact q
  | ret a => exact q
theorem Ex.forS {tgt iter : Expr} {body : List Stmt} {pos : Pos} {S : Type} (base : S → Lm) (s : S) (hb : Inc (base s) lm)
    (h : EvI g n sc tgt iter lm μ fun items need μ₁ => ∃ I : Nat → S → List Cell → Prop, I 0 s μ₁ ∧ (∀ i s μ', I i s μ' → need μ') ∧
      (∀ i s a μ', items[i]? = some a → I i s μ' → Asg g n sc true tgt a (base s) μ' fun lm'' μ'' => Exs g n sc body lm'' μ'' fun f l m => match f with
        | .next | .cont => ∃ s', Inc (base s') l ∧ I (i + 1) s' m
        | .brk => Q .next l m
        | .ret a => Q (.ret a) l m) ∧ (∀ s lm' μ', Inc (base s) lm' → I items.length s μ' → Q .next lm' μ'))
    (hs : ∀ env x, foldedSetIterable iter env x = pure x := by intro _ _; rfl) : Ex g n sc (.For tgt iter body [] pos) lm μ Q := by
  refine Ex.for (h.mono ?_) hs
  rintro items need μ₁ ⟨I, h0, hn, ht, he⟩
  refine ⟨fun i l m => ∃ s, Inc (base s) l ∧ I i s m, ⟨s, hb, h0⟩, fun i l m ⟨s, q⟩ => hn i s m q.2, ?_, fun l m ⟨s, q⟩ => he s l m q.1 q.2⟩
  rintro i a l m hi ⟨s, hl, hI⟩
  exact Asg.weaken (ht i s a m hi hI) hl.look
theorem Ev.nameT {x : String} {pos : Pos} {a : Addr} {its : Array Value} {k : Nat} {l : List AV} {P : AV → List Cell → Prop} (hx : sc.names.lookup (Str.ofString x) = some .globalImplicit) (e : nsIn g.K mainGlobals (Str.ofString x) = some (some (.ref a)))
    (ho : g.K.lookup a = some { cls := .type "tuple", data := .seq its k }) (hl : ∀ V ρ, RVs V ρ l its.toList) (p : P (.tup l) μ) (hd : (Str.ofString x == ("__debug__" : Str)) = false := by decide) : Ev g n sc (.Name (Str.ofString x) pos) lm μ P := by
  intro A env H ρ s E hA O B F
  have hk : env.kindOf (Str.ofString x) = some .globalImplicit := by show env.scope.names.lookup _ = _; rw [O.scope]; exact hx
  exact Name_function_global (by rw [O.scope]; exact O.kind) hk (loadGlobal_global (by rw [O.glob]; exact B.gl) (mg_of B.ok.K B.ok.gl e) (.here p B (fun _ _ e => e) rfl rfl (.tup (B.old _ _ (B.ok.K _ _ ho)) (hl _ _)))) hd
end
section
variable {μ₀ G : List Cell} {σ : St}
theorem wrL {c : Cell} : (wr μ₀ σ (G ++ [c]))[μ₀.length + (6 + G.length)]? = some c := wrG (by simp)
theorem wr_setL {c c' : Cell} : (wr μ₀ σ (G ++ [c])).set (μ₀.length + (6 + G.length)) c' = wr μ₀ σ (G ++ [c']) := by
  rw [wr_set]
  unfold wr
  congr 1
  have : (cellsS μ₀.length σ).length = 6 := rfl
  rw [List.set_append_right _ _ (by omega), this, Nat.add_sub_cancel_left, List.set_append_right _ _ (Nat.le_refl _), Nat.sub_self]
  rfl
end
end
section
open PySem PySem.Spec PySem.Calls PyProof.Rows PySem.W PySem.SeqAt
/-- an object's names, and cells behind -/
noncomputable def wa (μ₀ : List Cell) (kvs : List (String × AV)) (cs : List Cell) : List Cell := μ₀ ++ (.att kvs :: cs)
section
variable {μ₀ cs : List Cell} {kvs kvs' : List (String × AV)}
theorem wa0 : (wa μ₀ kvs cs)[μ₀.length]? = some (.att kvs) := by unfold wa; simp
theorem wa_at {k : Nat} {c : Cell} (h : cs[k]? = some c) : (wa μ₀ kvs cs)[μ₀.length + (k + 1)]? = some c := by
  unfold wa
  rw [List.getElem?_append_right (Nat.le_add_right _ _), Nat.add_sub_cancel_left]
  exact h
theorem wa1 {c1 : Cell} : (wa μ₀ kvs (c1 :: cs))[μ₀.length + 1]? = some c1 := wa_at rfl
theorem wa2 {c1 c2 : Cell} : (wa μ₀ kvs (c1 :: c2 :: cs))[μ₀.length + 2]? = some c2 := wa_at rfl
theorem wa3 {c1 c2 c3 : Cell} : (wa μ₀ kvs (c1 :: c2 :: c3 :: cs))[μ₀.length + 3]? = some c3 := wa_at rfl
theorem wa4 {c1 c2 c3 c4 : Cell} : (wa μ₀ kvs (c1 :: c2 :: c3 :: c4 :: cs))[μ₀.length + 4]? = some c4 := wa_at rfl
theorem wa5 {c1 c2 c3 c4 c5 : Cell} : (wa μ₀ kvs (c1 :: c2 :: c3 :: c4 :: c5 :: cs))[μ₀.length + 5]? = some c5 := wa_at rfl
theorem wa6 {c1 c2 c3 c4 c5 c6 : Cell} : (wa μ₀ kvs (c1 :: c2 :: c3 :: c4 :: c5 :: c6 :: cs))[μ₀.length + 6]? = some c6 := wa_at rfl
theorem wa7 {c1 c2 c3 c4 c5 c6 c7 : Cell} : (wa μ₀ kvs (c1 :: c2 :: c3 :: c4 :: c5 :: c6 :: c7 :: cs))[μ₀.length + 7]? = some c7 := wa_at rfl
theorem wa_set0 : (wa μ₀ kvs cs).set μ₀.length (.att kvs') = wa μ₀ kvs' cs := by
  unfold wa
  rw [List.set_append_right _ _ (Nat.le_refl _), Nat.sub_self]
  rfl
theorem wa_set {k : Nat} {c : Cell} : (wa μ₀ kvs cs).set (μ₀.length + (k + 1)) c = wa μ₀ kvs (cs.set k c) := by
  unfold wa
  rw [List.set_append_right _ _ (Nat.le_add_right _ _), Nat.add_sub_cancel_left]
  rfl
theorem wa_app {l : List Cell} : wa μ₀ kvs cs ++ l = wa μ₀ kvs (cs ++ l) := by unfold wa; simp
theorem wa_len : (wa μ₀ kvs cs).length = μ₀.length + (cs.length + 1) := by unfold wa; simp
end
end
open PySem PySem.Spec PySem.Calls PyProof.Rows PySem.W PySem.SeqAt
set_option maxHeartbeats 4000000
set_option compiler.extract_closed false
local macro_rules | `(tactic| walk_at "mk") => `(tactic| (have hfill : PySem.Challenge.rw_nz0021_01 = PySem.Challenge.rw_nz0021_01 ∧ hd.heap_39 = hd.heap_39 := (by k_fill; exact ⟨rfl, rfl⟩); clear hfill))
local macro_rules | `(tactic| walk_at "ki") => `(tactic| (first
  | ((with_reducible first | show List.lookup _ (hd.heap_39 _) = _ | show codeIn (hd.heap_39 _) _ _ = _ | show keepIn (hd.heap_39 _) _ = _ | show findIn (hd.heap_39 _) _ _ = _ | show plainGet (hd.heap_39 _) _ _ = _ | show hasDictIn (hd.heap_39 _) _ = _ | show noGet (hd.heap_39 _) _ = _ | show isFn (hd.heap_39 _) _ = _ | show fnIn (hd.heap_39 _) _ = _ | show makesIn (hd.heap_39 _) _ = _ | show typeIn (hd.heap_39 _) _ = _ | show plainOver (hd.heap_39 _) _ = _ | show takerIn (hd.heap_39 _) _ _ = _ | show clsIn (hd.heap_39 _) _ = _ | show mroIn (hd.heap_39 _) _ _ = _ | show nsIn (hd.heap_39 _) _ _ = _ | show ks_superIn (hd.heap_39 _) _ _ _ = _); k_is)
  | ((first | show List.lookup _ (hd.heap_39 _) = _ | show codeIn (hd.heap_39 _) _ _ = _ | show keepIn (hd.heap_39 _) _ = _ | show findIn (hd.heap_39 _) _ _ = _ | show plainGet (hd.heap_39 _) _ _ = _ | show hasDictIn (hd.heap_39 _) _ = _ | show noGet (hd.heap_39 _) _ = _ | show isFn (hd.heap_39 _) _ = _ | show fnIn (hd.heap_39 _) _ = _ | show makesIn (hd.heap_39 _) _ = _ | show typeIn (hd.heap_39 _) _ = _ | show plainOver (hd.heap_39 _) _ = _ | show takerIn (hd.heap_39 _) _ _ = _ | show clsIn (hd.heap_39 _) _ = _ | show mroIn (hd.heap_39 _) _ _ = _ | show nsIn (hd.heap_39 _) _ _ = _ | show ks_superIn (hd.heap_39 _) _ _ _ = _); k_is)
  | kernel_rfl))
local macro_rules | `(tactic| walk_at "ms") => `(tactic| (first
  | ((with_reducible first | refine' Exs.nil ?_ | refine' Exs.one ?_ | refine' Exs.cons ?_ | refine' Ex.ret ?_))
  | ((with_reducible refine' Ev.name ?h1 ?h2 ?_ ?h3); (case h1 => decide +kernel); (case h2 => rfl); (case h3 => kernel_rfl))
  | ((with_reducible refine' Ev.nameC ?h1 ?h2 ?_ ?h3); (case h1 => decide +kernel); (case h2 => rfl); (case h3 => kernel_rfl))
  | ((with_reducible refine' tupOk ?h1 ?_); (case h1 => rfl))
  | ((with_reducible first | refine' Ev.cInt ?_ | refine' Ev.cStr ?_ | refine' Ev.cBool ?_ | refine' Ev.cNone ?_ | refine' Ev.sub ?_ | refine' Ev.un ?_ | refine' Ev.bin ?_))
  | ((with_reducible refine' Ev.cmp ?_ ?h1); (case h1 => kernel_rfl))
  | ((with_reducible first | refine' Ev.ite ?_ | refine' Ev.tuple ?_))
  | ((with_reducible refine' Evs.cons ?_ ?h1); (case h1 => intros; rfl))
  | ((with_reducible refine' Evs.nil ?_))
  | ((with_reducible refine' Ev.attr ?_ ?h1); (case h1 => intros; with_unfolding_all rfl))
  | ((with_reducible first | refine' Ev.slice ?_ | refine' EvP.none ?_ | refine' EvP.some ?_ | refine' EvPs.cons ?_ | refine' EvPs.nil ?_ | refine' exInt ?_))
  | ((with_reducible refine' exTup ?h1 ?_); (case h1 => rfl))
  | ((with_reducible first | refine' UnV.neg ?_ | refine' UnV.not ?_ | refine' BinV.add ?_ | refine' BinV.sub ?_ | refine' CmpV.lt ?_ | refine' CmpV.le ?_ | refine' CmpV.gt ?_ | refine' CmpV.ge ?_ | refine' CmpV.eq ?_ | refine' CmpV.ne ?_ | refine' CmpV.eqS ?_ | refine' CmpV.isNotB ?_ | refine' CmpV.isB ?_ | refine' TruV.bool ?_))
  | ((with_reducible refine' Tst.cmp ?_ ?h1); (case h1 => kernel_rfl))
  | ((with_reducible first | refine' Tst.not ?_ | refine' Tst.and ?_ | refine' Tst.or ?_ | refine' Tst.and_nil ?_ | refine' Tst.or_nil ?_))
  | ((with_reducible refine' Tst.plain ?_ ?h1); (case h1 => intros; rfl))
  | ((with_reducible first | refine' Ex.ite ?_ | refine' Call.min ?_ | refine' Call.max ?_ | refine' Call.abs ?_ | refine' Call.intB ?_ | refine' Call.tupT ?_ | refine' IterV.lst ?_ | refine' IterV.tup ?_ | refine' CallI.zip ?_ | refine' CallI.enum ?_))
  | ((with_reducible first | refine' Ex.assign ?_ ?h1 | refine' Ex.assignAttr ?_ ?h1 | refine' Ex.assignSub ?_ ?h1 | refine' Ex.expr ?_ ?h1); (case h1 => intros; rfl))
  | ((with_reducible first | refine' Ex.pass ?_ | refine' Ex.cont ?_ | refine' Ex.ret0 ?_ | refine' Asg.name ?_))
  | ((with_reducible refine' Asg.tuple ?_ ?h1 ?h2 ?h3); (case h1 => rfl); (case h2 => intros; rfl); (case h3 => intros; rfl))
  | ((with_reducible refine' AsgIn.cons ?_ ?h1); (case h1 => intros; rfl))
  | ((with_reducible refine' AsgIn.nil ?_))
  | ((with_reducible refine' Sto.loc ?h1 ?_); (case h1 => decide +kernel))
  | ((with_reducible refine' Sto.cell ?h1 ?_); (case h1 => decide +kernel))
  | ((with_reducible first | refine' StoIn.rev2 ?_ | refine' StoIn.rev3 ?_ | refine' StoIn.cons ?_))
  | ((with_reducible refine' iteT ?h1 ?_); (case h1 => decide +kernel))
  | ((with_reducible refine' iteF ?h1 ?_); (case h1 => decide +kernel))
  | ((with_reducible refine' iteF' ?h1 ?_); (case h1 => decide +kernel))
  | ((with_reducible refine' iteT' ?h1 ?_); (case h1 => decide +kernel))
  | ((with_reducible first | refine' StoIn.nil ?_ | refine' IfsV.one ?_))
  | ((with_reducible refine' GetV.att ?h1 ?h2 ?_ ?h3 ?h4 ?h5 ?h6 ?h7); (case h1 => walk_at "at"); (case h2 => rfl); (case h3 => walk_at "ki"); (case h4 => walk_at "ki"); (case h5 => walk_at "ki"); (case h6 => walk_at "ki"); (case h7 => rfl))
  | ((with_reducible refine' Ev.meth0 ?_ ?h1); (case h1 => intros; exact ⟨_, rfl⟩))
  | ((with_reducible refine' Ev.meth ?_ ?h1 ?h2 ?h3); (case h1 => intros; exact ⟨_, rfl⟩); (case h2 => intros; rfl); (case h3 => intros; rfl))
  | ((with_reducible first | refine' ⟨_, MethV.list (x := "append") PySem.F.slot_list_append PySem.F.type_list_append ?h1, .builtin _, ?_⟩ | refine' ⟨_, MethV.list (x := "pop") PySem.F.slot_list_pop PySem.F.type_list_pop ?h1, .builtin _, ?_⟩ | refine' ⟨_, MethV.dI (x := "get") PySem.F.slot_dict_get PySem.F.type_dict_get ?h1, .builtin _, ?_⟩); (case h1 => walk_at "at"))
  | ((with_reducible refine' ⟨_, MethV.inst ?h1 ?h2 ?h3 ?h4 ?h5, .K ?h6, ?_⟩); (case h1 => walk_at "at"); (case h2 => rfl); (case h3 => walk_at "ki"); (case h4 => walk_at "ki"); (case h5 => walk_at "ki"); (case h6 => walk_at "ki"))
  | ((with_reducible refine' IfsV.nil ?_))
  | ((with_reducible first | refine' Ev.call (Ev.nameB (x := "min") (v := .builtin "min") ?h1 ?h2 ?h3 ⟨_, rfl, .builtin _, ?_⟩ ?h4 ?h5) ?h6 ?h7 ?h8 | refine' Ev.call (Ev.nameB (x := "max") (v := .builtin "max") ?h1 ?h2 ?h3 ⟨_, rfl, .builtin _, ?_⟩ ?h4 ?h5) ?h6 ?h7 ?h8 | refine' Ev.call (Ev.nameB (x := "len") (v := .builtin "len") ?h1 ?h2 ?h3 ⟨_, rfl, .builtin _, ?_⟩ ?h4 ?h5) ?h6 ?h7 ?h8 | refine' Ev.call (Ev.nameB (x := "sum") (v := .builtin "sum") ?h1 ?h2 ?h3 ⟨_, rfl, .builtin _, ?_⟩ ?h4 ?h5) ?h6 ?h7 ?h8 | refine' Ev.call (Ev.nameB (x := "abs") (v := .builtin "abs") ?h1 ?h2 ?h3 ⟨_, rfl, .builtin _, ?_⟩ ?h4 ?h5) ?h6 ?h7 ?h8 | refine' Ev.call (Ev.nameB (x := "sorted") (v := .builtin "sorted") ?h1 ?h2 ?h3 ⟨_, rfl, .builtin _, ?_⟩ ?h4 ?h5) ?h6 ?h7 ?h8 | refine' Ev.call (Ev.nameB (x := "tuple") (v := .type "tuple") ?h1 ?h2 ?h3 ⟨_, rfl, .type _, ?_⟩ ?h4 ?h5) ?h6 ?h7 ?h8 | refine' Ev.call (Ev.nameB (x := "int") (v := .type "int") ?h1 ?h2 ?h3 ⟨_, rfl, .type _, ?_⟩ ?h4 ?h5) ?h6 ?h7 ?h8 | refine' EvI.call (Ev.nameB (x := "zip") (v := .type "zip") ?h1 ?h2 ?h3 ⟨_, rfl, .type _, ?_⟩ ?h4 ?h5) ?h6 ?h7 ?h8 | refine' EvI.call (Ev.nameB (x := "enumerate") (v := .type "enumerate") ?h1 ?h2 ?h3 ⟨_, rfl, .type _, ?_⟩ ?h4 ?h5) ?h6 ?h7 ?h8 | refine' EvI.call (Ev.nameB (x := "range") (v := .type "range") ?h1 ?h2 ?h3 ⟨_, rfl, .type _, ?_⟩ ?h4 ?h5) ?h6 ?h7 ?h8); (case h1 => kernel_rfl); (case h2 => walk_at "ki"); (case h3 => kernel_rfl); (case h4 => decide); (case h5 => kernel_rfl); (case h6 => intros; rfl); (case h7 => intros; rfl); (case h8 => intros; rfl))
  | ((with_reducible refine' Ev.call (Ev.nameG ?h1 ?h2 ⟨_, rfl, .K ?h3, ?_⟩ ?h4) ?h6 ?h7 ?h8); (case h1 => kernel_rfl); (case h2 => walk_at "ki"); (case h3 => walk_at "ki"); (case h4 => kernel_rfl); (case h6 => intros; rfl); (case h7 => intros; rfl); (case h8 => intros; rfl))
  | ((with_reducible refine' Ev.call0 (Ev.nameG ?h1 ?h2 ⟨_, rfl, .K ?h3, ?_⟩ ?h4) ?h6); (case h1 => kernel_rfl); (case h2 => walk_at "ki"); (case h3 => walk_at "ki"); (case h4 => kernel_rfl); (case h6 => intros; rfl))
  | ((with_reducible refine' EvI.of ?_))
  | (with_reducible show Exs _ _ _ _ _ _ _)))
local macro_rules | `(tactic| walk_at "sw") => `(tactic| (rintro ⟨sc, _, _, _, _, _, _, _, _⟩ O; cases O.scope; with_unfolding_all rfl))
local macro_rules | `(tactic| walk_at "at") => `(tactic| (first | with_reducible exact wa0 | with_reducible exact wa1 | with_reducible exact wa2 | with_reducible exact wa3 | with_reducible exact wa4 | with_reducible exact wa5 | with_reducible exact wa6 | with_reducible exact wa7 | with_reducible exact wrL | exact wr0 | exact wr1 | exact wr2 | exact wr3 | exact wr4 | exact wr5 | assumption))
local macro_rules | `(tactic| walk_at "m") => `(tactic| repeat (walk_at "ms"))
section
open PySem PySem.Spec PySem.Calls PyProof.Rows PySem.W PySem.SeqAt

noncomputable abbrev gd (p : Program) (w : World) (h₀ : Heap) (mg mb : Str → Option Value) : Gd := ⟨p, w, hd.heap_39 w.params, h₀, mg, mb⟩
section
variable {p : Program} {w : World} {h₀ : Heap} {mg mb : Str → Option Value} {n : Nat} {μ : List Cell} {P : AV → List Cell → Prop}

theorem c_least {a : AV} {r r' : List AV} (hp : P a μ) : Call (gd p w h₀ mg mb) (n + 1) (.ref 28) [.tup (.tup (a :: r) :: r')] μ P := by
  walk_at "mk"
  refine Call.fn ["d"] (by walk_at "ki") (by walk_at "ki") (by intro vs h; match vs, h with | [_], _ => rfl) rfl (by decide) (by kernel_rfl) (by decide +kernel) ?_
  walk_at "m"
  refine SubV.tup (by decide) (by decide) (j := 0) (by simp [seqIndex?]) rfl ?_
  walk_at "m"
  refine SubV.tup (by decide) (by decide) (j := 0) (by simp [seqIndex?]) rfl ?_
  exact hp
theorem c_greatest {lo hi : AV} (hp : P hi μ) : Call (gd p w h₀ mg mb) (n + 1) (.ref 35) [.tup [.tup [lo, hi]]] μ P := by
  walk_at "mk"
  refine Call.fn ["d"] (by walk_at "ki") (by walk_at "ki") (by intro vs h; match vs, h with | [_], _ => rfl) rfl (by decide) (by kernel_rfl) (by decide +kernel) ?_
  walk_at "m"
  refine SubV.tup (by decide) (by decide) (j := 0) rfl rfl ?_
  walk_at "m"
  refine SubV.tup (by decide) (by decide) (j := 1) rfl rfl ?_
  exact hp
theorem c_up_to {lo hi k : Int} (hk : lo ≤ k) (hp : P (.tup [.tup [.int lo, .int (if k < hi then k else hi)]]) μ) : Call (gd p w h₀ mg mb) (n + 1) (.ref 54) [.tup [.tup [.int lo, .int hi]], .int k] μ P := by
  walk_at "mk"
  refine Call.fn ["d", "k"] (by walk_at "ki") (by walk_at "ki") (by intro vs h; match vs, h with | [_, _], _ => rfl) rfl (by decide) (by kernel_rfl) (by decide +kernel) ?_
  walk_at "m"
  refine Ev.comp [("k", .int k)] (by kernel_rfl) ⟨rfl, trivial⟩ ?_
  walk_at "m"
  refine ⟨fun i l μ' => μ' = μ ∧ l = (if i = 0 then [] else [.tup [.int lo, .int (if k < hi then k else hi)]]), ⟨rfl, rfl⟩, fun _ _ _ _ => trivial, ?_, ?_⟩
  · rintro i a l μ' ha ⟨rfl, rfl⟩
    match i, ha with
    | 0, ha =>
      cases ha
      walk_at "m"
      refine ⟨⟨rfl, trivial⟩, ?_⟩
      walk_at "m"
      simp only [hk, decide_true]
      refine ⟨(fun h => nomatch h), fun _ => ?_⟩
      walk_at "m"
      exact ⟨rfl, rfl⟩
  · rintro l μ' ⟨rfl, rfl⟩
    walk_at "m"
    exact Call.tupL (.fro _) (szL rfl) hp
end
end
section
open PySem PySem.Spec PySem.Calls PyProof.Rows PySem.W PySem.SeqAt
section
variable {p : Program} {w : World} {h₀ : Heap} {mg mb : Str → Option Value} {n : Nat} {μ : List Cell} {P : AV → List Cell → Prop}

theorem c_from_on {lo hi k : Int} (hk : k ≤ hi) (hp : P (dm (if k > lo then k else lo) hi) μ) : Call (gd p w h₀ mg mb) (n + 1) (.ref 59) [dm lo hi, .int k] μ P := by
  walk_at "mk"
  refine Call.fn ["d", "k"] (by walk_at "ki") (by walk_at "ki") (by intro vs h; match vs, h with | [_, _], _ => rfl) rfl (by decide) (by kernel_rfl) (by decide +kernel) ?_
  unfold dm
  walk_at "m"
  refine Ev.comp [("k", .int k)] (by kernel_rfl) ⟨rfl, trivial⟩ ?_
  walk_at "m"
  refine ⟨fun i l μ' => μ' = μ ∧ l = (if i = 0 then [] else [.tup [.int (if k > lo then k else lo), .int hi]]), ⟨rfl, rfl⟩, fun _ _ _ _ => trivial, ?_, ?_⟩
  · rintro i a l μ' ha ⟨rfl, rfl⟩
    match i, ha with
    | 0, ha =>
      cases ha
      walk_at "m"
      refine ⟨⟨rfl, trivial⟩, ?_⟩
      walk_at "m"
      simp only [hk, decide_true]
      refine ⟨(fun h => nomatch h), fun _ => ?_⟩
      walk_at "m"
      exact ⟨rfl, rfl⟩
  · rintro l μ' ⟨rfl, rfl⟩
    walk_at "m"
    exact Call.tupL (.fro _) (szL rfl) hp

/-- a literal: x <= k (up) or x >= k -/
noncomputable def lit (x : Nat) (up : Bool) (k : Int) : AV := .tup [.int x, .str (if up then "<=" else ">="), .int k]
noncomputable def cutLo (up : Bool) (lo k : Int) : Int := if up then lo else if k > lo then k else lo
noncomputable def cutHi (up : Bool) (hi k : Int) : Int := if up then if k < hi then k else hi else hi

theorem c_struck {x : Nat} {up : Bool} {lo hi k : Int} (hk : if up then lo ≤ k else k ≤ hi) (hp : P (dm (cutLo up lo k) (cutHi up hi k)) μ) : Call (gd p w h₀ mg mb) (n + 2) (.ref 87) [lit x up k, dm lo hi] μ P := by
  walk_at "mk"
  cases up with
  | true =>
    refine Call.fn ["literal", "d"] (by walk_at "ki") (by walk_at "ki") (by intro vs h; match vs, h with | [_, _], _ => rfl) rfl (by decide) (by kernel_rfl) (by decide +kernel) ?_
    unfold lit
    walk_at "m"
    refine Ex.assignW ["sign", "k"] ?_ (by walk_at "sw")
    walk_at "m"
    refine SubV.tup (by decide) (by decide) (j := 1) rfl rfl ?_
    walk_at "m"
    refine SubV.tup (by decide) (by decide) (j := 2) rfl rfl ?_
    walk_at "m"
    exact c_up_to hk hp
  | false =>
    refine Call.fn ["literal", "d"] (by walk_at "ki") (by walk_at "ki") (by intro vs h; match vs, h with | [_, _], _ => rfl) rfl (by decide) (by kernel_rfl) (by decide +kernel) ?_
    unfold lit
    walk_at "m"
    refine Ex.assignW ["sign", "k"] ?_ (by walk_at "sw")
    walk_at "m"
    refine SubV.tup (by decide) (by decide) (j := 1) rfl rfl ?_
    walk_at "m"
    refine SubV.tup (by decide) (by decide) (j := 2) rfl rfl ?_
    walk_at "m"
    exact c_from_on hk hp

theorem dm_dat (lo hi : Int) : ∀ a ∈ [AV.tup [AV.int lo, AV.int hi]], datD 1 a := by
  intro a ha
  rw [List.mem_singleton.mp ha]
  intro b hb
  rcases List.mem_cons.mp hb with rfl | hb
  · trivial
  · rw [List.mem_singleton.mp hb]; trivial

/-- what a literal leaves of a domain -/
noncomputable def cut (up : Bool) (k : Int) (d : Int × Int) : Int × Int := (cutLo up d.1 k, cutHi up d.2 k)
noncomputable def dmp (d : Int × Int) : AV := dm d.1 d.2
theorem dmp_inj {d e : Int × Int} : [AV.tup [AV.int d.1, AV.int d.2]] = [AV.tup [AV.int e.1, AV.int e.2]] ↔ d = e := by
  constructor
  · intro h
    simp only [List.cons.injEq, AV.tup.injEq, AV.int.injEq, and_true] at h
    exact Prod.ext h.1 h.2
  · rintro rfl; rfl
noncomputable def fits (up : Bool) (k : Int) (d : Int × Int) : Prop := if up then d.1 ≤ k else k ≤ d.2

theorem c_said_of {x : Nat} {up : Bool} {k : Int} {d : Int × Int} (hk : fits up k d) (hp : ∀ r : Int, (r = 1 ↔ cut up k d = d) → P (.int r) μ) : Call (gd p w h₀ mg mb) (n + 3) (.ref 94) [lit x up k, dmp d] μ P := by
  walk_at "mk"
  refine Call.fn ["literal", "d"] (by walk_at "ki") (by walk_at "ki") (by intro vs h; match vs, h with | [_, _], _ => rfl) rfl (by decide) (by kernel_rfl) (by decide +kernel) ?_
  walk_at "m"
  refine c_struck hk ?_
  walk_at "m"
  refine CmpV.eqTup 1 (by omega) (dm_dat _ _) (dm_dat _ _) fun r hr => ?_
  walk_at "m"
  refine ⟨fun hb => ?_, fun hb => ?_⟩
  · walk_at "m"
    exact hp 1 ⟨fun _ => dmp_inj.mp (hr.mp hb), fun _ => rfl⟩
  · walk_at "m"
    refine CmpV.eqTup 1 (by omega) (dm_dat _ _) (fun _ q => nomatch q) fun r' hr' => ?_
    have : r' = false := by
      cases r' with
      | false => rfl
      | true => exact absurd (hr'.mp rfl) (by simp)
    subst this
    walk_at "m"
    exact hp 0 ⟨(fun h => by omega), fun h => by rw [hr.mpr (dmp_inj.mpr h)] at hb; cases hb⟩
end
end
section
open PySem PySem.Spec PySem.Calls PyProof.Rows PySem.W PySem.SeqAt
section
variable {p : Program} {w : World} {h₀ : Heap} {mg mb : Str → Option Value} {n : Nat} {P : AV → List Cell → Prop} {μ₀ G : List Cell} {σ : St}

theorem small {x : Nat} (h : x < 3) : (x : Int) < 2 ^ 63 := by omega

theorem m_low {x : Nat} {d : Int × Int} (h3 : x < 3) (hx : σ.doms[x]? = some (dmp d)) (hp : P (.int d.1) (wr μ₀ σ G)) : Call (gd p w h₀ mg mb) (n + 2) (.ref 143) [.obj 244 μ₀.length, .int x] (wr μ₀ σ G) P := by
  walk_at "mk"
  refine Call.fn ["self", "x"] (by walk_at "ki") (by walk_at "ki") (by intro vs h; match vs, h with | [_, _], _ => rfl) rfl (by decide) (by kernel_rfl) (by decide +kernel) ?_
  walk_at "m"
  refine SubV.lst (.loc wr1) (small h3) hx ?_
  walk_at "m"
  exact c_least hp
theorem m_high {x : Nat} {d : Int × Int} (h3 : x < 3) (hx : σ.doms[x]? = some (dmp d)) (hp : P (.int d.2) (wr μ₀ σ G)) : Call (gd p w h₀ mg mb) (n + 2) (.ref 150) [.obj 244 μ₀.length, .int x] (wr μ₀ σ G) P := by
  walk_at "mk"
  refine Call.fn ["self", "x"] (by walk_at "ki") (by walk_at "ki") (by intro vs h; match vs, h with | [_, _], _ => rfl) rfl (by decide) (by kernel_rfl) (by decide +kernel) ?_
  walk_at "m"
  refine SubV.lst (.loc wr1) (small h3) hx ?_
  walk_at "m"
  exact c_greatest hp
theorem m_dom {x : Nat} {d : AV} (h3 : x < 3) (hx : σ.doms[x]? = some d) (hp : P d (wr μ₀ σ G)) : Call (gd p w h₀ mg mb) (n + 1) (.ref 129) [.obj 244 μ₀.length, .int x] (wr μ₀ σ G) P := by
  walk_at "mk"
  refine Call.fn ["self", "x"] (by walk_at "ki") (by walk_at "ki") (by intro vs h; match vs, h with | [_, _], _ => rfl) rfl (by decide) (by kernel_rfl) (by decide +kernel) ?_
  walk_at "m"
  refine SubV.lst (.loc wr1) (small h3) hx ?_
  exact hp
theorem m_initial {x : Nat} {d : AV} (h3 : x < 3) (hx : σ.firsts[x]? = some d) (hp : P d (wr μ₀ σ G)) : Call (gd p w h₀ mg mb) (n + 1) (.ref 136) [.obj 244 μ₀.length, .int x] (wr μ₀ σ G) P := by
  walk_at "mk"
  refine Call.fn ["self", "x"] (by walk_at "ki") (by walk_at "ki") (by intro vs h; match vs, h with | [_, _], _ => rfl) rfl (by decide) (by kernel_rfl) (by decide +kernel) ?_
  walk_at "m"
  refine SubV.lst (.loc wr2) (small h3) hx ?_
  exact hp
theorem m_holds {x : Nat} {up : Bool} {k : Int} {d : Int × Int} (h3 : x < 3) (hx : σ.doms[x]? = some (dmp d)) (hk : fits up k d) (hp : ∀ r : Int, (r = 1 ↔ cut up k d = d) → P (.int r) (wr μ₀ σ G)) :
    Call (gd p w h₀ mg mb) (n + 4) (.ref 185) [.obj 244 μ₀.length, lit x up k] (wr μ₀ σ G) P := by
  walk_at "mk"
  refine Call.fn ["self", "literal"] (by walk_at "ki") (by walk_at "ki") (by intro vs h; match vs, h with | [_, _], _ => rfl) rfl (by decide) (by kernel_rfl) (by decide +kernel) ?_
  walk_at "m"
  refine SubV.tup (by decide) (by decide) (j := 0) rfl rfl ?_
  refine SubV.lst (.loc wr1) (small h3) hx ?_
  walk_at "m"
  exact c_said_of hk hp
theorem m_push (hz : σ.trail.length < 1000) (hm : σ.marks.length < 1000) (hp : P .none (wr μ₀ { σ with marks := σ.marks ++ [.int σ.trail.length] } G)) : Call (gd p w h₀ mg mb) (n + 1) (.ref 220) [.obj 244 μ₀.length] (wr μ₀ σ G) P := by
  walk_at "mk"
  refine Call.fn ["self"] (by walk_at "ki") (by walk_at "ki") (by intro vs h; match vs, h with | [_], _ => rfl) rfl (by decide) (by kernel_rfl) (by decide +kernel) ?_
  walk_at "m"
  refine Call.len (.loc wr3) (by omega) ?_
  walk_at "m"
  refine Call.append wr4 (by rw [sizeLine]; omega) ?_
  rw [wr_set4]
  exact hp
end
end
section
open PySem PySem.Spec PySem.Calls PyProof.Rows PySem.W PySem.SeqAt
section
variable {p : Program} {w : World} {h₀ : Heap} {mg mb : Str → Option Value} {n : Nat} {P : AV → List Cell → Prop} {μ₀ G : List Cell} {σ : St}

theorem m_enter {x : Nat} {up : Bool} {k : Int} {d : Int × Int} {rs sp : AV} (h3 : x < 3) (hx : σ.doms[x]? = some (dmp d)) (hk : fits up k d) (hz : σ.trail.length < 1000) (hn : σ.news.length < 1000)
    (hp1 : cut up k d = d → P (.bool true) (wr μ₀ σ G))
    (hp2 : cut up k d ≠ d → ∀ ep, P (.bool true) (wr μ₀ { σ with trail := σ.trail ++ [.tup [.int x, dmp d, lit x up k, rs, sp]], doms := σ.doms.set x (dmp (cut up k d)), news := putA σ.news x (.bool true), ep := ep } G)) :
    Call (gd p w h₀ mg mb) (n + 3) (.ref 192) [.obj 244 μ₀.length, lit x up k, rs, sp] (wr μ₀ σ G) P := by
  have hlen : x < σ.doms.length := by
    rcases Nat.lt_or_ge x σ.doms.length with q | q
    · exact q
    · rw [List.getElem?_eq_none q] at hx; cases hx
  walk_at "mk"
  refine Call.fn ["self", "literal", "reasons", "speaker"] (by walk_at "ki") (by walk_at "ki") (by intro vs h; match vs, h with | [_, _, _, _], _ => rfl) rfl (by decide) (by kernel_rfl) (by decide +kernel) ?_
  walk_at "m"
  refine SubV.tup (by decide) (by decide) (j := 0) rfl rfl ?_
  walk_at "m"
  refine SubV.lst (.loc wr1) (small h3) hx ?_
  walk_at "m"
  refine c_struck hk ?_
  walk_at "m"
  refine CmpV.eqTup 1 (by omega) (dm_dat _ _) (fun _ q => nomatch q) fun r' hr' => ?_
  have : r' = false := by
    cases r' with
    | false => rfl
    | true => exact absurd (hr'.mp rfl) (by simp)
  subst this
  walk_at "m"
  refine CmpV.eqTup 1 (by omega) (dm_dat _ _) (dm_dat _ _) fun r hr => ?_
  walk_at "m"
  refine ⟨fun hb => ?_, fun hb => ?_⟩
  · walk_at "m"
    exact hp1 (dmp_inj.mp (hr.mp hb))
  · have hne : cut up k d ≠ d := fun e => by rw [hr.mpr (dmp_inj.mpr e)] at hb; cases hb
    walk_at "m"
    refine Call.append wr3 (by rw [sizeLine]; omega) ?_
    rw [wr_set3]
    walk_at "m"
    refine SetV.lst wr1 hlen (small h3) ?_
    rw [wr_set1]
    walk_at "m"
    refine SetV.dI wr5 (by rw [sizeLine]; show σ.news.length ≤ _; omega) fun ep => ?_
    rw [wr_set5]
    walk_at "m"
    exact hp2 hne ep

theorem m_strike {x : Nat} {up : Bool} {k : Int} {d : Int × Int} {rs : List AV} (h3 : x < 3) (hx : σ.doms[x]? = some (dmp d)) (hk : fits up k d) (hz : σ.trail.length < 1000) (hn : σ.news.length < 1000)
    (hp1 : cut up k d = d → P (.bool true) (wr μ₀ σ G))
    (hp2 : cut up k d ≠ d → ∀ ep, P (.bool true) (wr μ₀ { σ with trail := σ.trail ++ [.tup [.int x, dmp d, lit x up k, .tup rs, .int (-1)]], doms := σ.doms.set x (dmp (cut up k d)), news := putA σ.news x (.bool true), ep := ep } G)) :
    Call (gd p w h₀ mg mb) (n + 4) (.ref 199) [.obj 244 μ₀.length, lit x up k, .tup rs] (wr μ₀ σ G) P := by
  walk_at "mk"
  refine Call.fn ["self", "literal", "reasons"] (by walk_at "ki") (by walk_at "ki") (by intro vs h; match vs, h with | [_, _, _], _ => rfl) rfl (by decide) (by kernel_rfl) (by decide +kernel) ?_
  walk_at "m"
  exact m_enter h3 hx hk hz hn hp1 hp2

theorem m_fail {rs : List AV} (hp : P (.bool false) (wr μ₀ { σ with failed := true, clash := rs } G)) : Call (gd p w h₀ mg mb) (n + 1) (.ref 213) [.obj 244 μ₀.length, .tup rs] (wr μ₀ σ G) P := by
  walk_at "mk"
  refine Call.fn ["self", "reasons"] (by walk_at "ki") (by walk_at "ki") (by intro vs h; match vs, h with | [_, _], _ => rfl) rfl (by decide) (by kernel_rfl) (by decide +kernel) ?_
  walk_at "m"
  refine SetA.att wr0 (ltL rfl) ?_ (by walk_at "ki") (by walk_at "ki") (by walk_at "ki") (by kernel_rfl)
  have e : (wr μ₀ σ G).set μ₀.length (.att (putA (attS μ₀.length σ) "is_failed" (.bool true))) = wr μ₀ { σ with failed := true } G := wr_set0 (f := true) (c := σ.clash)
  rw [e]
  walk_at "m"
  refine SetA.att wr0 (ltL rfl) ?_ (by walk_at "ki") (by walk_at "ki") (by walk_at "ki") (by kernel_rfl)
  have e2 : (wr μ₀ { σ with failed := true } G).set μ₀.length (.att (putA (attS μ₀.length { σ with failed := true }) "clash" (.tup rs))) = wr μ₀ { σ with failed := true, clash := rs } G := wr_set0 (σ := { σ with failed := true }) (f := true) (c := rs)
  rw [e2]
  walk_at "m"
  exact hp

theorem m_new_var {d : Int × Int} (hz : σ.doms.length < 1000) (hz' : σ.firsts.length < 1000) (hp : P (.int (σ.doms.length + 1 - 1)) (wr μ₀ { σ with doms := σ.doms ++ [dmp d], firsts := σ.firsts ++ [dmp d] } G)) :
    Call (gd p w h₀ mg mb) (n + 3) (.ref 115) [.obj 244 μ₀.length, dmp d] (wr μ₀ σ G) P := by
  walk_at "mk"
  refine Call.fn ["self", "domain"] (by walk_at "ki") (by walk_at "ki") (by intro vs h; match vs, h with | [_, _], _ => rfl) rfl (by decide) (by kernel_rfl) (by decide +kernel) ?_
  walk_at "m"
  refine Call.append wr1 (by rw [sizeLine]; omega) ?_
  rw [wr_set1]
  walk_at "m"
  refine Call.append wr2 (by rw [sizeLine]; show σ.firsts.length ≤ _; omega) ?_
  rw [wr_set2]
  walk_at "m"
  refine CmpV.eqTup 1 (by omega) (dm_dat _ _) (fun _ q => nomatch q) fun r' hr' => ?_
  have : r' = false := by
    cases r' with
    | false => rfl
    | true => exact absurd (hr'.mp rfl) (by simp)
  subst this
  walk_at "m"
  refine Call.len (.loc wr1) (by simp; omega) ?_
  walk_at "m"
  show P _ _
  simpa using hp
end
end
section
open PySem PySem.Spec PySem.Calls PyProof.Rows PySem.W PySem.SeqAt
section
variable {p : Program} {w : World} {h₀ : Heap} {mg mb : Str → Option Value} {n : Nat} {P : AV → List Cell → Prop} {μ₀ G : List Cell} {σ : St}

noncomputable def σ0 (ep : Nat) : St := ⟨[], [], [], [], [], ep, false, []⟩
theorem m_init (hp : ∀ ep, P .none (wr μ₀ (σ0 ep) [])) : CallC (gd p w h₀ mg mb) (n + 1) (.ref 108) [.obj 244 μ₀.length] (μ₀ ++ [.att []]) P := by
  walk_at "mk"
  refine CallC.fn ["self"] (by walk_at "ki") (by walk_at "ki") (by intro vs h; match vs, h with | [_], _ => rfl) rfl (by decide) (by kernel_rfl) (by decide +kernel) ?_
  show Exs _ _ _ _ _ (wa μ₀ [] []) _
  walk_at "m"
  refine Ev.listM ?_
  walk_at "m"
  rw [wa_app, wa_len]
  refine SetA.att wa0 (by exact ltL rfl) ?_ (by walk_at "ki") (by walk_at "ki") (by walk_at "ki") (by kernel_rfl)
  rw [wa_set0]
  walk_at "m"
  refine Ev.listM ?_
  walk_at "m"
  rw [wa_app, wa_len]
  refine SetA.att wa0 (by exact ltL rfl) ?_ (by walk_at "ki") (by walk_at "ki") (by walk_at "ki") (by kernel_rfl)
  rw [wa_set0]
  walk_at "m"
  refine Ev.listM ?_
  walk_at "m"
  rw [wa_app, wa_len]
  refine SetA.att wa0 (by exact ltL rfl) ?_ (by walk_at "ki") (by walk_at "ki") (by walk_at "ki") (by kernel_rfl)
  rw [wa_set0]
  walk_at "m"
  refine Ev.listM ?_
  walk_at "m"
  rw [wa_app, wa_len]
  refine SetA.att wa0 (by exact ltL rfl) ?_ (by walk_at "ki") (by walk_at "ki") (by walk_at "ki") (by kernel_rfl)
  rw [wa_set0]
  walk_at "m"
  refine Ev.dictM fun ep => ?_
  walk_at "m"
  rw [wa_app, wa_len]
  refine SetA.att wa0 (by exact ltL rfl) ?_ (by walk_at "ki") (by walk_at "ki") (by walk_at "ki") (by kernel_rfl)
  rw [wa_set0]
  walk_at "m"
  refine SetA.att wa0 (by exact ltL rfl) ?_ (by walk_at "ki") (by walk_at "ki") (by walk_at "ki") (by kernel_rfl)
  rw [wa_set0]
  walk_at "m"
  refine SetA.att wa0 (by exact ltL rfl) ?_ (by walk_at "ki") (by walk_at "ki") (by walk_at "ki") (by kernel_rfl)
  rw [wa_set0]
  walk_at "m"
  refine SetA.att wa0 (by exact ltL rfl) ?_ (by walk_at "ki") (by walk_at "ki") (by walk_at "ki") (by kernel_rfl)
  rw [wa_set0]
  walk_at "m"
  exact hp ep

/- the trail, its last entry first -/
structure Ent where
  x : Nat
  old : Int × Int
  lit : AV
  rs : AV
  sp : AV
noncomputable def entA (e : Ent) : AV := .tup [.int e.x, dmp e.old, e.lit, e.rs, e.sp]
noncomputable def undo (D : List (Int × Int)) : List Ent → List (Int × Int)
  | [] => D
  | e :: r => undo (D.set e.x e.old) r
noncomputable def attP (b j : Nat) (f : Bool) (c : List AV) : List (String × AV) := [("domains", .loc (b + 1)), ("firsts", .loc (b + 2)), ("trail", .loc (b + 3)), ("marks", .lst []), ("news", .loc j), ("speaker", .int (-1)), ("is_failed", .bool f), ("clash", .tup c)]
noncomputable def attP0 (b : Nat) (f : Bool) (c : List AV) : List (String × AV) := [("domains", .loc (b + 1)), ("firsts", .loc (b + 2)), ("trail", .loc (b + 3)), ("marks", .loc (b + 4)), ("news", .loc (b + 5)), ("speaker", .int (-1)), ("is_failed", .bool f), ("clash", .tup c)]
noncomputable def attP1 (b : Nat) (f : Bool) (c : List AV) : List (String × AV) := [("domains", .loc (b + 1)), ("firsts", .loc (b + 2)), ("trail", .loc (b + 3)), ("marks", .lst []), ("news", .loc (b + 5)), ("speaker", .int (-1)), ("is_failed", .bool f), ("clash", .tup c)]
theorem m_pop {D F : List (Int × Int)} {r : List Ent} (hD : σ.doms = D.map dmp) (hF : σ.firsts = F.map dmp) (hF3 : F.length < 1000) (hr : σ.trail = r.reverse.map entA) (hm : σ.marks = [.int 0]) (hlen : r.length < 1000)
    (hxs : ∀ e ∈ r, e.x < D.length) (hD3 : D.length ≤ 3) (hp : ∀ j cs, P .none (wa μ₀ (attP μ₀.length j false []) (.lst ((undo D r).map dmp) :: cs))) :
    Call (gd p w h₀ mg mb) (n + 4) (.ref 227) [.obj 244 μ₀.length, .int 1] (wr μ₀ σ G) P := by
  walk_at "mk"
  refine Call.fn ["self", "n"] (by walk_at "ki") (by walk_at "ki") (by intro vs h; match vs, h with | [_, _], _ => rfl) rfl (by decide) (by kernel_rfl) (by decide +kernel) ?_
  obtain ⟨d0, f0, t0, m0, nw, ep, fl, cl⟩ := σ
  simp only at hD hF hr hm
  subst hD hF hr hm
  show Exs _ _ _ _ _ (wa μ₀ (attP0 μ₀.length fl cl) (.lst (D.map dmp) :: .lst (F.map dmp) :: .lst (r.reverse.map entA) :: .lst [.int 0] :: .dI nw ep :: G)) _
  walk_at "m"
  refine Call.len (.loc (wa_at rfl)) (by decide) ?_
  walk_at "m"
  refine SubV.lst (k := 0) (.loc (wa_at rfl)) (by decide) rfl ?_
  walk_at "m"
  refine Call.len (.loc (wa_at rfl)) (by decide) ?_
  walk_at "m"
  walk_at "m"
  show SubV _ _ _ _ _ (.slc none (some ((0 : Nat) : Int)) none) _ _
  refine SubV.upto (k := 0) (.loc (wa_at rfl)) (by exact szL rfl) ?_
  walk_at "m"
  refine SetA.att wa0 (by exact ltL rfl) ?_ (by walk_at "ki") (by walk_at "ki") (by walk_at "ki") (by kernel_rfl)
  rw [wa_set0]
  walk_at "m"
  refine Ex.whileB [("mark", .int 0), ("self", .obj 244 μ₀.length)] (fun k μ => ∃ r' D', k = r'.length ∧ undo D' r' = undo D r ∧ (∀ e ∈ r', e.x < D'.length) ∧ D'.length = D.length ∧ k < 1000 ∧
    μ = wa μ₀ (attP1 μ₀.length fl cl) (.lst (D'.map dmp) :: .lst (F.map dmp) :: .lst (r'.reverse.map entA) :: .lst [.int 0] :: .dI nw ep :: G)) r.length ⟨rfl, rfl, trivial⟩ ⟨r, D, rfl, rfl, hxs, rfl, hlen, rfl⟩ ?_
  rintro k μ ⟨r', D', hk, hu, hx, hl, hk2, rfl⟩
  walk_at "m"
  refine Call.len (.loc (wa_at rfl)) (by rw [List.length_map, List.length_reverse]; omega) ?_
  walk_at "m"
  refine ⟨fun hb => ?_, fun hb lm' hlm => ?_⟩
  · cases r' with
    | nil => simp at hb
    | cons e r' =>
      rw [List.reverse_cons, List.map_append, List.map_singleton]
      walk_at "m"
      refine Call.pop (l := r'.reverse.map entA) (a := entA e) (by exact wa_at rfl) (by rw [List.length_map, List.length_reverse, sizeLine]; simp at hk; omega) ?_
      rw [wa_set]
      walk_at "m"
      refine SubV.tup (by decide) (by decide) (j := 1) rfl rfl ?_
      walk_at "m"
      refine SubV.tup (by decide) (by decide) (j := 0) rfl rfl ?_
      have hxe := hx e List.mem_cons_self
      refine SetV.lst (wa_at rfl) (by rw [List.length_map]; exact hxe) (small (by omega)) ?_
      rw [wa_set]
      walk_at "m"
      refine ⟨⟨rfl, rfl, trivial⟩, r'.length, by simp at hk; omega, r', D'.set e.x e.old, rfl, hu, ?_, by rw [List.length_set]; exact hl, by simp at hk; omega, ?_⟩
      · intro e' he'
        rw [List.length_set]
        exact hx e' (List.mem_cons_of_mem _ he')
      · rw [List.map_set]
        rfl
  · have hr0 : r' = [] := by
      cases r' with
      | nil => rfl
      | cons e r' => simp at hb
    subst hr0
    refine Exs.weaken (lm' := [("mark", .int 0), ("self", .obj 244 μ₀.length)]) ?_ hlm.look
    walk_at "m"
    refine Ev.dictM fun ep' => ?_
    rw [wa_app, wa_len]
    walk_at "m"
    refine SetA.att wa0 (by exact ltL rfl) ?_ (by walk_at "ki") (by walk_at "ki") (by walk_at "ki") (by kernel_rfl)
    rw [wa_set0]
    walk_at "m"
    refine CmpV.inLst 2 (by omega) (.loc (wa_at rfl)) (fun _ q => nomatch q) ?_ fun b hb' => ?_
    · intro a ha
      obtain ⟨d, _, rfl⟩ := List.mem_map.mp ha
      exact dm_dat _ _
    have : b = false := by
      cases b with
      | false => rfl
      | true =>
        obtain ⟨d, _, hd'⟩ := List.mem_map.mp (hb'.mp rfl)
        cases hd'
    subst this
    walk_at "m"
    refine SetA.att wa0 (by exact ltL rfl) ?_ (by walk_at "ki") (by walk_at "ki") (by walk_at "ki") (by kernel_rfl)
    rw [wa_set0]
    walk_at "m"
    refine SetA.att wa0 (by exact ltL rfl) ?_ (by walk_at "ki") (by walk_at "ki") (by walk_at "ki") (by kernel_rfl)
    rw [wa_set0]
    walk_at "m"
    have hu' : D' = undo D r := hu
    rw [hu']
    exact hp _ _
end
end
section
open PySem PySem.Spec PySem.Calls PyProof.Rows PySem.W PySem.SeqAt
section
variable {p : Program} {w : World} {h₀ : Heap} {mg mb : Str → Option Value} {n : Nat} {P : AV → List Cell → Prop} {μ₀ G : List Cell} {σ : St}

theorem mulOk {a b : Int} (h : -1000 < a ∧ a < 1000) : IntMulOk a b := .of_left (intBits_le_64 (by omega) (by omega))
theorem enum_at {l : List AV} {i : Nat} {a : AV} (h : (enumA 0 l)[i]? = some a) : ∃ b, l[i]? = some b ∧ a = .tup [.int i, b] := by
  have hi : i < l.length := by
    rcases Nat.lt_or_ge i l.length with q | q
    · exact q
    · rw [List.getElem?_eq_none (by rw [enumA_length]; exact q)] at h; cases h
  have e := List.getElem?_eq_getElem hi
  rw [enumA_get l 0 i _ e] at h
  injection h with h
  exact ⟨_, e, by rw [← h, Int.zero_add]⟩
noncomputable def ltm (d : Int × Int) (a : Int) : Int := if 0 < a then a * d.1 else a * d.2
theorem c_least_term {x : Nat} {a : Int} {d : Int × Int} (h3 : x < 3) (hx : σ.doms[x]? = some (dmp d)) (ha : -1000 < a ∧ a < 1000) (hp : P (.int (ltm d a)) (wr μ₀ σ G)) :
    Call (gd p w h₀ mg mb) (n + 3) (.ref 302) [.obj 244 μ₀.length, .int a, .int x] (wr μ₀ σ G) P := by
  walk_at "mk"
  refine Call.fn ["store", "coef", "x"] (by walk_at "ki") (by walk_at "ki") (by intro vs h; match vs, h with | [_, _, _], _ => rfl) rfl (by decide) (by kernel_rfl) (by decide +kernel) ?_
  walk_at "m"
  refine ⟨fun hb => ?_, fun hb => ?_⟩
  · walk_at "m"
    refine m_low h3 hx ?_
    refine BinV.mul (mulOk ha) ?_
    have : ltm d a = a * d.1 := if_pos (of_decide_eq_true hb)
    rw [this] at hp
    exact hp
  · walk_at "m"
    refine m_high h3 hx ?_
    refine BinV.mul (mulOk ha) ?_
    have : ltm d a = a * d.2 := if_neg (of_decide_eq_false hb)
    rw [this] at hp
    exact hp
noncomputable def rowA (r : Int × Nat) : AV := .tup [.int r.1, .int r.2]
structure RowsOk (σ : St) (rows : List (Int × Nat)) : Prop where
  at3 : ∀ r ∈ rows, r.2 < 3 ∧ (∃ d, σ.doms[r.2]? = some (dmp d)) ∧ ∃ f, σ.firsts[r.2]? = some (dmp f)
  l3 : rows.length ≤ 3
theorem row_at {rows : List (Int × Nat)} {i : Nat} {b : AV} (h : (rows.map rowA)[i]? = some b) : ∃ r ∈ rows, rows[i]? = some r ∧ b = rowA r := by
  rw [List.getElem?_map] at h
  cases e : rows[i]? with
  | none => rw [e] at h; cases h
  | some r => rw [e] at h; injection h with h; exact ⟨r, List.mem_of_getElem? e, rfl, h.symm⟩
theorem c_least_reasons {rows : List (Int × Nat)} {sk : Int} (ok : RowsOk σ rows) (hp : ∀ rs G', rs.length ≤ rows.length → P (.tup rs) (wr μ₀ σ (G ++ G'))) :
    Call (gd p w h₀ mg mb) (n + 4) (.ref 309) [.obj 244 μ₀.length, .lst (rows.map rowA), .int sk] (wr μ₀ σ G) P := by
  have hl3 := ok.l3
  walk_at "mk"
  refine Call.fn ["store", "rows", "skipped"] (by walk_at "ki") (by walk_at "ki") (by intro vs h; match vs, h with | [_, _, _], _ => rfl) rfl (by decide) (by kernel_rfl) (by decide +kernel) ?_
  walk_at "m"
  refine Ev.listM ?_
  walk_at "m"
  rw [wr_app, wr_len]
  refine Ex.forB [("found", .loc (μ₀.length + (6 + G.length))), ("store", .obj 244 μ₀.length), ("rows", .lst (rows.map rowA)), ("skipped", .int sk)] ⟨rfl, rfl, rfl, rfl, trivial⟩ ?_ (by intros; rfl)
  walk_at "m"
  refine ⟨fun i μ => ∃ l, l.length ≤ i ∧ μ = wr μ₀ σ (G ++ [.lst l]), ⟨[], Nat.le_refl _, rfl⟩, fun _ _ _ => trivial, ?_, ?_⟩
  · rintro i a μ hi ⟨l, hl, rfl⟩
    obtain ⟨b, hb, rfl⟩ := enum_at hi
    obtain ⟨r, hr, hri, rfl⟩ := row_at hb
    obtain ⟨h3, ⟨d, hd⟩, f, hf⟩ := ok.at3 r hr
    show Asg _ _ _ _ _ (.tup [.int i, .tup [.int r.1, .int r.2]]) _ _ _
    have go : ∀ l', l'.length ≤ i + 1 → ∃ l, l.length ≤ i + 1 ∧ wr μ₀ σ (G ++ [.lst l']) = wr μ₀ σ (G ++ [.lst l]) := fun l' h => ⟨l', h, rfl⟩
    have hsz : l.length ≤ sizeLine := by
      have : i < rows.length := by
        rcases Nat.lt_or_ge i rows.length with q | q
        · exact q
        · rw [List.getElem?_eq_none q] at hri; cases hri
      rw [sizeLine]; omega
    walk_at "m"
    refine ⟨fun _ => ?_, fun _ => ?_⟩
    · walk_at "m"
      exact ⟨⟨rfl, rfl, rfl, rfl, trivial⟩, go _ (by omega)⟩
    walk_at "m"
    refine ⟨fun _ => ?_, fun _ => ?_⟩
    · walk_at "m"
      refine m_low h3 hd ?_
      walk_at "m"
      refine m_initial h3 hf ?_
      walk_at "m"
      refine SubV.tup (by decide) (by decide) (j := 0) rfl rfl ?_
      walk_at "m"
      refine SubV.tup (by decide) (by decide) (j := 0) rfl rfl ?_
      walk_at "m"
      refine ⟨fun _ => ?_, fun _ => ?_⟩
      · walk_at "m"
        refine m_low h3 hd ?_
        walk_at "m"
        refine Call.append wrL hsz ?_
        rw [wr_setL]
        walk_at "m"
        exact ⟨⟨rfl, rfl, rfl, rfl, trivial⟩, go _ (by simp; omega)⟩
      · rename_i h1 _
        walk_at "m"
        refine ⟨fun h2 => absurd (of_decide_eq_true h2) (by have := of_decide_eq_true h1; omega), fun _ => ?_⟩
        walk_at "m"
        exact ⟨⟨rfl, rfl, rfl, rfl, trivial⟩, go _ (by omega)⟩
    · walk_at "m"
      refine ⟨fun _ => ?_, fun _ => ?_⟩
      · walk_at "m"
        refine m_high h3 hd ?_
        walk_at "m"
        refine m_initial h3 hf ?_
        walk_at "m"
        refine SubV.tup (by decide) (by decide) (j := 0) rfl rfl ?_
        walk_at "m"
        refine SubV.tup (by decide) (by decide) (j := 1) rfl rfl ?_
        walk_at "m"
        refine ⟨fun _ => ?_, fun _ => ?_⟩
        · walk_at "m"
          refine m_high h3 hd ?_
          walk_at "m"
          refine Call.append wrL hsz ?_
          rw [wr_setL]
          walk_at "m"
          exact ⟨⟨rfl, rfl, rfl, rfl, trivial⟩, go _ (by simp; omega)⟩
        · walk_at "m"
          exact ⟨⟨rfl, rfl, rfl, rfl, trivial⟩, go _ (by omega)⟩
      · walk_at "m"
        exact ⟨⟨rfl, rfl, rfl, rfl, trivial⟩, go _ (by omega)⟩
  · rintro lm' μ' hlm ⟨l, hl, rfl⟩
    rw [enumA_length, List.length_map] at hl
    refine Exs.weaken (lm' := [("found", .loc (μ₀.length + (6 + G.length))), ("store", .obj 244 μ₀.length), ("rows", .lst (rows.map rowA)), ("skipped", .int sk)]) ?_ hlm.look
    walk_at "m"
    refine Call.tupL (.loc wrL) (by rw [sizeLine]; omega) ?_
    exact hp _ _ hl
end
end
section
open PySem PySem.Spec PySem.Calls PyProof.Rows PySem.W PySem.SeqAt
noncomputable def F0 : List IP := [(-150, 150), (-150, 150), (-150, 150)]
noncomputable def wd (d : IP) : Nat := (d.2 - d.1).toNat
noncomputable def W (D : List IP) : Nat := (D.map wd).sum
noncomputable def holdsD (s : Nat → Int) (D : List IP) : Prop := ∀ (x : Nat) (d : IP), D[x]? = some d → d.1 ≤ s x ∧ s x ≤ d.2
noncomputable def subD (D' D : List IP) : Prop := ∀ (x : Nat) (d' d : IP), D'[x]? = some d' → D[x]? = some d → d.1 ≤ d'.1 ∧ d'.2 ≤ d.2
noncomputable def dot (rows : List (Int × Nat)) (s : Nat → Int) : Int := (rows.map fun r => r.1 * s r.2).sum
structure SS (D : List IP) (r : List Ent) (σ : St) : Prop where
  doms : σ.doms = D.map dmp
  trail : σ.trail = r.reverse.map entA
  firsts : σ.firsts = F0.map dmp
  marks : σ.marks = [.int 0]
  news : σ.news.length ≤ r.length
  len : D.length = 3
  und : undo D r = F0
  xs : ∀ e ∈ r, e.x < 3
  wid : r.length + W D ≤ 900
  ok : σ.failed = false
theorem W_set : ∀ {D : List IP} {x : Nat} {d d' : IP}, D[x]? = some d → W (D.set x d') + wd d = W D + wd d'
  | [], _, _, _, h => by simp at h
  | e :: D, 0, d, d', h => by
    simp at h; subst h
    simp [W]; omega
  | e :: D, x + 1, d, d', h => by
    have := W_set (D := D) (x := x) (d := d) (d' := d') (by simpa using h)
    simp [W] at this ⊢; omega
theorem wd_cut {up : Bool} {k t : Int} {d : IP} (h1 : d.1 ≤ t) (h2 : t ≤ d.2) (h3 : (cut up k d).1 ≤ t) (h4 : t ≤ (cut up k d).2) (hne : cut up k d ≠ d) : wd (cut up k d) < wd d := by
  obtain ⟨lo, hi⟩ := d
  simp only [cut, cutLo, cutHi, wd] at *
  cases up <;> simp only [Bool.false_eq_true, if_false, if_true] at * <;> split at hne <;> simp_all <;> omega
theorem cut_sub {up : Bool} {k : Int} {d : IP} : d.1 ≤ (cut up k d).1 ∧ (cut up k d).2 ≤ d.2 := by
  obtain ⟨lo, hi⟩ := d
  simp only [cut, cutLo, cutHi]
  cases up <;> simp <;> split <;> omega
theorem sum_but {α : Type} {f g : α → Int} : ∀ {l : List α}, (∀ r ∈ l, f r ≤ g r) → (l.map f).sum ≤ (l.map g).sum ∧ ∀ r ∈ l, (l.map f).sum - f r ≤ (l.map g).sum - g r
  | [], _ => by simp
  | a :: l, h => by
    obtain ⟨h1, h2⟩ := sum_but (l := l) fun r hr => h r (List.mem_cons_of_mem _ hr)
    have ha := h a List.mem_cons_self
    simp only [List.map_cons, List.sum_cons]
    refine ⟨by omega, fun r hr => ?_⟩
    rcases List.mem_cons.mp hr with rfl | hr
    · omega
    · have := h2 r hr; omega
theorem ltm_le {d : IP} {a t : Int} (h1 : d.1 ≤ t) (h2 : t ≤ d.2) : ltm d a ≤ a * t := by
  unfold ltm
  split
  · exact Int.mul_le_mul_of_nonneg_left h1 (by omega)
  · exact Int.mul_le_mul_of_nonpos_left (by omega) h2
theorem ltm_sub {d d' : IP} {a : Int} (h1 : d.1 ≤ d'.1) (h2 : d'.2 ≤ d.2) : ltm d a ≤ ltm d' a := by
  unfold ltm
  split
  · exact Int.mul_le_mul_of_nonneg_left h1 (by omega)
  · exact Int.mul_le_mul_of_nonpos_left (by omega) h2
theorem bound_up {a t m : Int} (ha : 0 < a) (h : a * t ≤ m) : t ≤ m.fdiv a := by
  rw [Int.fdiv_eq_ediv_of_nonneg _ (by omega)]
  exact (Int.le_ediv_iff_mul_le ha).mpr (by rw [Int.mul_comm]; exact h)
theorem bound_dn {a t m : Int} (ha : a < 0) (h : a * t ≤ m) : -(m.fdiv (-a)) ≤ t := by
  have := bound_up (a := -a) (t := -t) (m := m) (by omega) (by rw [Int.neg_mul_neg]; exact h)
  omega
theorem holds_set {s : Nat → Int} {D : List IP} {x : Nat} {d' : IP} (h : holdsD s D) (h1 : d'.1 ≤ s x) (h2 : s x ≤ d'.2) : holdsD s (D.set x d') := by
  intro y d hy
  by_cases e : x = y
  · subst e
    rw [List.getElem?_set, if_pos rfl] at hy
    split at hy
    · injection hy with hy; subst hy; exact ⟨h1, h2⟩
    · cases hy
  · rw [List.getElem?_set_ne e] at hy
    exact h y d hy
theorem sub_set {D' D : List IP} {x : Nat} {d d' : IP} (h : subD D' D) (hx : D'[x]? = some d) (h1 : d.1 ≤ d'.1) (h2 : d'.2 ≤ d.2) : subD (D'.set x d') D := by
  intro y e e₀ hy hy₀
  by_cases q : x = y
  · subst q
    rw [List.getElem?_set, if_pos rfl] at hy
    split at hy
    · injection hy with hy; subst hy
      have := h x d e₀ hx hy₀
      omega
    · cases hy
  · rw [List.getElem?_set_ne q] at hy
    exact h y e e₀ hy hy₀
theorem putA_len {kvs : List (Int × AV)} {k : Int} {a : AV} : (putA kvs k a).length ≤ kvs.length + 1 := by
  unfold putA; split <;> simp
theorem set_back {D : List IP} {x : Nat} {d d' : IP} (h : D[x]? = some d) : (D.set x d').set x d = D := by
  apply List.ext_getElem?
  intro i
  rw [List.getElem?_set, List.getElem?_set]
  by_cases e : x = i
  · subst e
    have : x < D.length := by
      rcases Nat.lt_or_ge x D.length with q | q
      · exact q
      · rw [List.getElem?_eq_none q] at h; cases h
    have e := List.getElem?_eq_getElem this
    rw [e] at h
    injection h with h
    simp [this, h]
  · simp [e]
theorem SS.step {D : List IP} {r : List Ent} {σ : St} (h : SS D r σ) {x : Nat} {d d' : IP} {l rs sp : AV} {ep : Nat} (h3 : x < 3) (hx : D[x]? = some d) (hw : wd d' < wd d) :
    SS (D.set x d') (⟨x, d, l, rs, sp⟩ :: r) { σ with trail := σ.trail ++ [.tup [.int x, dmp d, l, rs, sp]], doms := σ.doms.set x (dmp d'), news := putA σ.news x (.bool true), ep := ep } ∧ W (D.set x d') < W D := by
  have w := W_set (d' := d') hx
  refine ⟨⟨?_, ?_, h.firsts, h.marks, ?_, by rw [List.length_set]; exact h.len, ?_, ?_, ?_, h.ok⟩, by omega⟩
  · show σ.doms.set x _ = _
    rw [h.doms, List.map_set]
  · show σ.trail ++ _ = _
    rw [h.trail, List.reverse_cons, List.map_append]
    rfl
  · have := h.news
    have := putA_len (kvs := σ.news) (k := x) (a := .bool true)
    simp only [List.length_cons]
    omega
  · show undo ((D.set x d').set x d) r = F0
    rw [set_back hx]
    exact h.und
  · intro e he
    rcases List.mem_cons.mp he with rfl | he
    · exact h3
    · exact h.xs e he
  · have := h.wid
    simp only [List.length_cons]
    omega
section
variable {p : Program} {w : World} {h₀ : Heap} {mg mb : Str → Option Value} {n : Nat} {P : AV → List Cell → Prop} {μ₀ G : List Cell} {σ : St}
theorem iteEv {g : Gd} {sc : Scope} {lm : Lm} {μ : List Cell} {b : Bool} {e1 e2 : Expr} {P : AV → List Cell → Prop} (R : AV → List Cell → Prop) (h1 : b = true → Ev g n sc e1 lm μ R) (h2 : b = false → Ev g n sc e2 lm μ R) (h : ∀ a μ', R a μ' → P a μ') :
    (b = true → Ev g n sc e1 lm μ P) ∧ (b = false → Ev g n sc e2 lm μ P) := ⟨fun q => (h1 q).mono h, fun q => (h2 q).mono h⟩
noncomputable def dv (D : List IP) (x : Nat) : IP := D.getD x (0, 0)
theorem dv_at {D : List IP} {x : Nat} (h : x < D.length) : D[x]? = some (dv D x) := by
  rw [dv, List.getD_eq_getElem?_getD, List.getElem?_eq_getElem h]; rfl
theorem SS.at {D : List IP} {r : List Ent} (h : SS D r σ) {x : Nat} (h3 : x < 3) : σ.doms[x]? = some (dmp (dv D x)) := by
  rw [h.doms, List.getElem?_map, dv_at (by rw [h.len]; exact h3)]; rfl
theorem SS.rowsOk {D : List IP} {r : List Ent} (h : SS D r σ) {rows : List (Int × Nat)} (hr : ∀ r ∈ rows, r.2 < 3) (hl : rows.length ≤ 3) : RowsOk σ rows :=
  ⟨fun r' q => ⟨hr r' q, ⟨_, h.at (hr r' q)⟩, dv F0 r'.2, by rw [h.firsts, List.getElem?_map, dv_at (D := F0) (hr r' q)]; rfl⟩, hl⟩
theorem take1 {α β : Type} {f : α → β} {l : List α} {i : Nat} {a : α} (h : l[i]? = some a) : (l.take (i + 1)).map f = (l.take i).map f ++ [f a] := by
  rw [List.take_add_one, h, List.map_append]; rfl
theorem c_strike_le {rows : List (Int × Nat)} {c : Int} {D : List IP} {r : List Ent} {s : Nat → Int} (hS : SS D r σ) (hh : holdsD s D) (hrows : ∀ r ∈ rows, r.2 < 3 ∧ r.1 ≠ 0 ∧ -1000 < r.1 ∧ r.1 < 1000) (hl3 : rows.length ≤ 3) (hc : dot rows s ≤ c)
    (hp : ∀ D' r' σ' G', SS D' r' σ' → holdsD s D' → (D' = D ∨ W D' < W D) → P (.bool true) (wr μ₀ σ' (G ++ G'))) :
    Call (gd p w h₀ mg mb) (n + 5) (.ref 314) [.obj 244 μ₀.length, .lst (rows.map rowA), .int c] (wr μ₀ σ G) P := by
  have hlt : ∀ r ∈ rows, ltm (dv D r.2) r.1 ≤ r.1 * s r.2 := fun r hr => by
    have := hh r.2 _ (dv_at (by rw [hS.len]; exact (hrows r hr).1))
    exact ltm_le this.1 this.2
  obtain ⟨hs1, hs2⟩ := sum_but hlt
  walk_at "mk"
  refine Call.fn ["store", "rows", "c"] (by walk_at "ki") (by walk_at "ki") (by intro vs h; match vs, h with | [_, _, _], _ => rfl) rfl (by decide) (by kernel_rfl) (by decide +kernel) ?_
  walk_at "m"
  refine Ev.comp [("store", .obj 244 μ₀.length)] (by kernel_rfl) ⟨rfl, trivial⟩ ?_ (by intros; rfl)
  walk_at "m"
  refine ⟨by rw [List.length_map, sizeLine]; omega, fun i l μ => l = ((rows.take i).map fun r => AV.int (ltm (dv D r.2) r.1)) ∧ μ = wr μ₀ σ G, ⟨rfl, rfl⟩, fun _ _ _ _ => trivial, ?_, ?_⟩
  · rintro i a l μ hi ⟨rfl, rfl⟩
    obtain ⟨r, hr, hri, rfl⟩ := row_at hi
    show Asg _ _ _ _ _ (.tup [.int r.1, .int r.2]) _ _ _
    walk_at "m"
    refine ⟨⟨rfl, trivial⟩, ?_⟩
    walk_at "m"
    refine c_least_term (hrows r hr).1 (hS.at (hrows r hr).1) (hrows r hr).2.2 ?_
    exact ⟨(take1 hri).symm, rfl⟩
  · rintro l μ ⟨rfl, rfl⟩
    walk_at "m"
    rw [List.length_map, List.take_length]
    have e : rows.map (fun r => AV.int (ltm (dv D r.2) r.1)) = (rows.map fun r => ltm (dv D r.2) r.1).map .int := by rw [List.map_map]; rfl
    rw [e]
    refine Call.sum ?_
    walk_at "m"
    have hroom : ¬ (c - (rows.map fun r => ltm (dv D r.2) r.1).sum < 0) := by
      unfold dot at hc; omega
    rw [decide_eq_false hroom]
    walk_at "m"
    refine Ex.forB [("room", .int (c - (rows.map fun r => ltm (dv D r.2) r.1).sum)), ("store", .obj 244 μ₀.length), ("rows", .lst (rows.map rowA))] ⟨rfl, rfl, rfl, trivial⟩ ?_ (by intros; rfl)
    walk_at "m"
    refine ⟨fun i μ => ∃ D' r' σ' G', SS D' r' σ' ∧ holdsD s D' ∧ subD D' D ∧ (D' = D ∨ W D' < W D) ∧ μ = wr μ₀ σ' (G ++ G'), ⟨D, r, σ, [], hS, hh, ?_, .inl rfl, by rw [List.append_nil]⟩, fun _ _ _ => trivial, ?_, ?_⟩
    · intro x d' d h1 h2
      rw [h1] at h2; injection h2 with h2; subst h2
      exact ⟨Int.le_refl _, Int.le_refl _⟩
    · rintro i a μ hi ⟨D', r', σ', G', hS', hh', hsub, hD, rfl⟩
      obtain ⟨b, hb, rfl⟩ := enum_at hi
      obtain ⟨⟨a, x⟩, hr, hri, rfl⟩ := row_at hb
      obtain ⟨h3, hne, ha⟩ := hrows _ hr
      simp only at h3 hne ha
      have hat := dv_at (D := D') (by rw [hS'.len]; exact h3)
      have hin := hh' x _ hat
      have hmost : a * s x ≤ c - (rows.map fun r => ltm (dv D r.2) r.1).sum + ltm (dv D' x) a := by
        have h1 := hs2 _ hr
        have hsb := hsub x _ _ hat (dv_at (D := D) (by rw [hS.len]; exact h3))
        have h2 := ltm_sub (a := a) hsb.1 hsb.2
        unfold dot at hc
        simp only at h1
        omega
      generalize hm : c - (rows.map fun r => ltm (dv D r.2) r.1).sum = room at hmost
      show Asg _ _ _ _ _ (.tup [.int i, .tup [.int a, .int x]]) _ _ _
      walk_at "m"
      refine c_least_term h3 (hS'.at h3) ha ?_
      walk_at "m"
      refine iteEv (fun b μ' => μ' = wr μ₀ σ' (G ++ G') ∧ ∃ up k, b = lit x up k ∧ fits up k (dv D' x) ∧ (cut up k (dv D' x)).1 ≤ s x ∧ s x ≤ (cut up k (dv D' x)).2) (fun hb => ?_) (fun hb => ?_) ?_
      · have hpos := of_decide_eq_true hb
        walk_at "m"
        refine BinV.div hne (PyProof.noPylong_small (by omega)) ?_
        walk_at "m"
        have hk := bound_up hpos hmost
        refine ⟨rfl, true, _, rfl, ?_, ?_, ?_⟩
        · show (dv D' x).1 ≤ _
          omega
        · show (dv D' x).1 ≤ _
          exact hin.1
        · show _ ≤ if _ then _ else _
          split <;> omega
      · have hneg : a < 0 := by have := of_decide_eq_false hb; omega
        walk_at "m"
        refine BinV.div (by omega) (PyProof.noPylong_small (by omega)) ?_
        walk_at "m"
        have hk := bound_dn hneg hmost
        refine ⟨rfl, false, _, rfl, ?_, ?_, ?_⟩
        · show _ ≤ (dv D' x).2
          omega
        · show (if _ then _ else _) ≤ _
          split <;> omega
        · show _ ≤ (dv D' x).2
          exact hin.2
      · rintro b μ' ⟨rfl, up, k, rfl, hf, hc1, hc2⟩
        walk_at "m"
        refine m_holds h3 (hS'.at h3) hf fun q hq => ?_
        walk_at "m"
        refine ⟨fun hq1 => ?_, fun hq1 => ?_⟩
        · have hcut : cut up k (dv D' x) ≠ dv D' x := fun e => by rw [hq.mpr e] at hq1; simp at hq1
          walk_at "m"
          refine c_least_reasons (hS'.rowsOk (fun r hr => (hrows r hr).1) hl3) fun rs G'' _ => ?_
          walk_at "m"
          have hz : r'.length ≤ 900 := by have := hS'.wid; omega
          refine m_strike h3 (hS'.at h3) hf (by rw [hS'.trail, List.length_map, List.length_reverse]; omega) (by have := hS'.news; omega) (fun e => absurd e hcut) fun _ ep => ?_
          obtain ⟨hS'', hW⟩ := hS'.step (l := lit x up k) (rs := .tup rs) (sp := .int (-1)) (ep := ep) h3 hat (wd_cut hin.1 hin.2 hc1 hc2 hcut)
          walk_at "m"
          refine ⟨⟨rfl, rfl, rfl, trivial⟩, _, _, _, G' ++ G'', hS'', holds_set hh' hc1 hc2, sub_set hsub hat cut_sub.1 cut_sub.2, .inr ?_, by rw [List.append_assoc]⟩
          rcases hD with rfl | hD
          · exact hW
          · omega
        · walk_at "m"
          exact ⟨⟨rfl, rfl, rfl, trivial⟩, D', r', σ', G', hS', hh', hsub, hD, rfl⟩
    · rintro lm' μ' hlm ⟨D', r', σ', G', hS', hh', hsub, hD, rfl⟩
      refine Exs.weaken (lm' := []) ?_ (fun _ _ h => nomatch h)
      walk_at "m"
      exact hp _ _ _ _ hS' hh' hD
end
end
section
open PySem PySem.Spec PySem.Calls PyProof.Rows PySem.W PySem.SeqAt
noncomputable def gcdL (rows : List (Int × Nat)) : Nat := rows.foldl (fun g r => Nat.gcd g r.1.natAbs) 0
theorem gcdL_take {rows : List (Int × Nat)} {i : Nat} {r : Int × Nat} (h : rows[i]? = some r) : gcdL (rows.take (i + 1)) = Nat.gcd (gcdL (rows.take i)) r.1.natAbs := by
  unfold gcdL
  rw [List.take_add_one, h, List.foldl_append]; rfl
theorem abs_nat {a : Int} : (if a < 0 then -a else a) = (a.natAbs : Int) := by split <;> omega
section
variable {p : Program} {w : World} {h₀ : Heap} {mg mb : Str → Option Value} {n : Nat} {P : AV → List Cell → Prop} {μ : List Cell}
theorem c_divisor_of {rows : List (Int × Nat)} (hp : P (.int (gcdL rows)) μ) : Call (gd p w h₀ mg mb) (n + 1) (.ref 321) [.lst (rows.map rowA)] μ P := by
  walk_at "mk"
  refine Call.fn ["rows"] (by walk_at "ki") (by walk_at "ki") (by intro vs h; match vs, h with | [_], _ => rfl) rfl (by decide) (by kernel_rfl) (by decide +kernel) ?_
  walk_at "m"
  refine Ex.forS (S := Nat) (fun f => [("found", .int f)]) 0 ⟨rfl, trivial⟩ ?_ (by intros; rfl)
  walk_at "m"
  refine ⟨fun i f μ' => f = gcdL (rows.take i) ∧ μ = μ', ⟨rfl, rfl⟩, fun _ _ _ _ => trivial, ?_, ?_⟩
  · rintro i s b μ' hi ⟨rfl, rfl⟩
    obtain ⟨⟨a, x⟩, hr, hri, rfl⟩ := row_at hi
    show Asg _ _ _ _ _ (.tup [.int a, .int x]) _ _ _
    walk_at "m"
    refine Ex.assignW ["one", "other"] ?_ (by walk_at "sw")
    walk_at "m"
    refine Ex.whileS (S := Nat × Nat) (fun s => [("one", .int s.1), ("other", .int s.2)]) (fun k s μ' => s.2 = k ∧ Nat.gcd s.1 s.2 = Nat.gcd (gcdL (rows.take i)) a.natAbs ∧ μ = μ') a.natAbs (gcdL (rows.take i), a.natAbs) ⟨rfl, ?_, trivial⟩ ⟨rfl, rfl, rfl⟩ ?_
    · show some (AV.int _) = some (AV.int _)
      rw [abs_nat]
    · rintro k ⟨u, v⟩ μ' ⟨rfl, hg, rfl⟩
      simp only at hg
      walk_at "m"
      refine ⟨fun hb => ?_, fun hb lm' hlm => ?_⟩
      · have hv : v ≠ 0 := by intro e; subst e; simp at hb
        refine Exs.one (Ex.assignW ["one", "other"] ?_ (by walk_at "sw"))
        walk_at "m"
        refine BinV.mod (by omega) ?_
        walk_at "m"
        refine ⟨(v, u % v), ⟨rfl, ?_, trivial⟩, u % v, Nat.mod_lt _ (by omega), rfl, ?_, rfl⟩
        · show some (AV.int _) = some (AV.int _)
          rw [Int.ofNat_fmod]
        · show Nat.gcd v (u % v) = _
          rw [Nat.gcd_comm, ← Nat.gcd_rec, Nat.gcd_comm, hg]
      · have hv : v = 0 := by simp at hb; exact hb
        subst hv
        refine Exs.weaken (lm' := [("one", .int u), ("other", .int (0 : Nat))]) ?_ hlm.look
        walk_at "m"
        refine ⟨u, ⟨rfl, trivial⟩, ?_, rfl⟩
        rw [gcdL_take hri, ← hg, Nat.gcd_zero_right]
  · rintro f lm' μ' hlm ⟨rfl, rfl⟩
    rw [List.length_map, List.take_length] at hlm
    refine Exs.weaken (lm' := [("found", .int (gcdL rows))]) ?_ hlm.look
    walk_at "m"
    exact hp
end
end
section
open PySem PySem.Spec PySem.Calls PyProof.Rows PySem.W PySem.SeqAt
noncomputable def tot (ps : List (Int × Nat)) (x : Nat) : Int := ((ps.filter fun r => r.2 == x).map (·.1)).sum
theorem tot_take {ps : List (Int × Nat)} {i : Nat} {c : Int} {y x : Nat} (h : ps[i]? = some (c, y)) : tot (ps.take (i + 1)) x = tot (ps.take i) x + if y = x then c else 0 := by
  unfold tot
  rw [List.take_add_one, h, List.filter_append, List.map_append, List.sum_append]
  congr 1
  by_cases e : y = x <;> simp [e]
/-- the counts, as kept in a dict -/
noncomputable def kvA (kvs : List (Nat × Int)) : List (Int × AV) := kvs.map fun q => ((q.1 : Int), .int q.2)
noncomputable def putN (kvs : List (Nat × Int)) (x : Nat) (v : Int) : List (Nat × Int) := if kvs.any (fun q => q.1 = x) then kvs.map (fun q => if q.1 = x then (q.1, v) else q) else kvs ++ [(x, v)]
theorem kvA_put {kvs : List (Nat × Int)} {x : Nat} {v : Int} : putA (kvA kvs) x (.int v) = kvA (putN kvs x v) := by
  unfold putA putN kvA
  have e : (kvs.map fun q => ((q.1 : Int), AV.int q.2)).any (fun kv => kv.1 = (x : Int)) = kvs.any fun q => q.1 = x := by
    rw [List.any_map]; congr 1; funext q; exact decide_eq_decide.mpr (by show ((q.1 : Int) = (x : Int)) ↔ _; omega)
  rw [e]
  split
  · rw [List.map_map, List.map_map]
    apply List.map_congr_left
    intro q _
    simp only [Function.comp]
    by_cases h : q.1 = x
    · simp [h]
    · have : ¬ (q.1 : Int) = (x : Int) := by omega
      simp [h, this]
  · rw [List.map_append]; rfl
structure KvOk (ps : List (Int × Nat)) (kvs : List (Nat × Int)) : Prop where
  nd : (kvs.map (·.1)).Nodup
  val : ∀ q ∈ kvs, q.2 = tot ps q.1
  rest : ∀ x, x ∉ kvs.map (·.1) → tot ps x = 0
theorem KvOk.get {ps : List (Int × Nat)} {kvs : List (Nat × Int)} (h : KvOk ps kvs) (x : Nat) : (getA (kvA kvs) x).getD (.int 0) = .int (tot ps x) := by
  unfold getA kvA
  rw [List.find?_map]
  cases e : kvs.find? ((fun kv : Int × AV => decide (kv.1 = (x : Int))) ∘ fun q => ((q.1 : Int), AV.int q.2)) with
  | none =>
    rw [h.rest x]
    · rfl
    · intro hm
      obtain ⟨q, hq, e2⟩ := List.mem_map.mp hm
      have := List.find?_eq_none.mp e q hq
      simp [e2] at this
  | some q =>
    have h1 := List.mem_of_find?_eq_some e
    have h2 := List.find?_some e
    simp at h2
    have h3 : q.1 = x := by omega
    simp [h.val q h1, h3]
theorem KvOk.at {ps : List (Int × Nat)} {kvs : List (Nat × Int)} (h : KvOk ps kvs) {q : Nat × Int} (hq : q ∈ kvs) : getA (kvA kvs) q.1 = some (.int q.2) := by
  have h1 := h.get q.1
  have h2 : (getA (kvA kvs) q.1).isSome := by
    unfold getA kvA
    rw [Option.isSome_map, List.find?_isSome]
    exact ⟨_, List.mem_map.mpr ⟨q, hq, rfl⟩, by simp⟩
  cases e : getA (kvA kvs) q.1 with
  | none => rw [e] at h2; cases h2
  | some a => rw [e] at h1; rw [h.val q hq]; exact congrArg some h1
theorem KvOk.step {ps : List (Int × Nat)} {i : Nat} {c : Int} {y : Nat} {kvs : List (Nat × Int)} (hi : ps[i]? = some (c, y)) (h : KvOk (ps.take i) kvs) : KvOk (ps.take (i + 1)) (putN kvs y (tot (ps.take i) y + c)) := by
  unfold putN
  split
  · rename_i hany
    have hk : (kvs.map (fun q => if q.1 = y then (q.1, tot (ps.take i) y + c) else q)).map (·.1) = kvs.map (·.1) := by
      rw [List.map_map]; apply List.map_congr_left; intro q _; simp only [Function.comp]; split <;> rfl
    refine ⟨by rw [hk]; exact h.nd, ?_, ?_⟩
    · intro q hq
      obtain ⟨q₀, hq₀, rfl⟩ := List.mem_map.mp hq
      rw [tot_take hi]
      by_cases e : q₀.1 = y
      · simp [e]
      · rw [if_neg e, if_neg (fun w => e w.symm), Int.add_zero]; exact h.val q₀ hq₀
    · intro x hx
      rw [hk] at hx
      rw [tot_take hi, h.rest x hx]
      have : y ≠ x := by
        rintro rfl
        obtain ⟨q, hq, e⟩ := List.any_eq_true.mp hany
        exact hx (List.mem_map.mpr ⟨q, hq, by simpa using e⟩)
      simp [this]
  · rename_i hany
    have hy : y ∉ kvs.map (·.1) := by
      intro hm
      obtain ⟨q, hq, e⟩ := List.mem_map.mp hm
      exact hany (List.any_eq_true.mpr ⟨q, hq, by simpa using e⟩)
    refine ⟨?_, ?_, ?_⟩
    · rw [List.map_append, List.nodup_append]
      refine ⟨h.nd, by simp, ?_⟩
      intro a ha b hb
      simp at hb
      rintro rfl
      exact hy (hb ▸ ha)
    · intro q hq
      rw [tot_take hi]
      rcases List.mem_append.mp hq with hq | hq
      · have : y ≠ q.1 := fun e => hy (e ▸ List.mem_map.mpr ⟨q, hq, rfl⟩)
        rw [if_neg this, Int.add_zero]; exact h.val q hq
      · simp at hq; subst hq; simp
    · intro x hx
      rw [List.map_append, List.mem_append] at hx
      rw [tot_take hi, h.rest x (fun q => hx (.inl q))]
      have : y ≠ x := by rintro rfl; exact hx (.inr (by simp))
      simp [this]
theorem putN_len {kvs : List (Nat × Int)} {x : Nat} {v : Int} : (putN kvs x v).length ≤ kvs.length + 1 := by
  unfold putN; split <;> simp
noncomputable def ofKv (kvs : List (Nat × Int)) : List (Int × Nat) := (kvs.filter fun q => q.2 != 0).map fun q => (q.2, q.1)
theorem ofKv_take {kvs : List (Nat × Int)} {i : Nat} {q : Nat × Int} (h : kvs[i]? = some q) : ofKv (kvs.take (i + 1)) = ofKv (kvs.take i) ++ if q.2 = 0 then [] else [(q.2, q.1)] := by
  unfold ofKv
  rw [List.take_add_one, h, List.filter_append, List.map_append]
  congr 1
  by_cases e : q.2 = 0 <;> simp [e]
/-- the rows of a sum -/
structure RowsOf (ps rows : List (Int × Nat)) : Prop where
  nd : (rows.map (·.2)).Nodup
  mem : ∀ r, r ∈ rows ↔ r.1 = tot ps r.2 ∧ r.1 ≠ 0
theorem KvOk.rows {ps : List (Int × Nat)} {kvs : List (Nat × Int)} (h : KvOk ps kvs) : RowsOf ps (ofKv kvs) := by
  unfold ofKv
  constructor
  · rw [List.map_map]
    have e : ((fun r : Int × Nat => r.2) ∘ fun q : Nat × Int => (q.2, q.1)) = fun q => q.1 := rfl
    rw [e]
    exact h.nd.sublist (List.filter_sublist.map _)
  · rintro ⟨v, x⟩
    rw [List.mem_map]
    constructor
    · rintro ⟨q, hq, e⟩
      obtain ⟨h1, h2⟩ := List.mem_filter.mp hq
      cases e
      exact ⟨h.val q h1, by simpa using h2⟩
    · rintro ⟨h1, h2⟩
      simp only at h1 h2
      have hx : x ∈ kvs.map (·.1) := by
        apply Classical.byContradiction
        intro hx
        exact h2 (h1.trans (h.rest x hx))
      obtain ⟨q, hq, rfl⟩ := List.mem_map.mp hx
      exact ⟨q, List.mem_filter.mpr ⟨hq, by simp [h.val q hq, ← h1, h2]⟩, by rw [h1, h.val q hq]⟩
theorem zip_rows : ∀ (ps : List (Int × Nat)), zipA (ps.map fun r => AV.int r.1) (ps.map fun r => AV.int r.2) = ps.map rowA
  | [] => rfl
  | r :: ps => by
    have := zip_rows ps
    unfold zipA at *
    simp only [List.map_cons, List.zipWith_cons_cons, this]
    rfl
section
variable {p : Program} {w : World} {h₀ : Heap} {mg mb : Str → Option Value} {n : Nat} {P : AV → List Cell → Prop} {μ : List Cell}
theorem c_rows_of {ps : List (Int × Nat)} (hz : ps.length ≤ 1000) (hp : ∀ rows c, RowsOf ps rows → P (.lst (rows.map rowA)) (μ ++ [c])) :
    Call (gd p w h₀ mg mb) (n + 1) (.ref 295) [.tup (ps.map fun r => .int r.1), .tup (ps.map fun r => .int r.2)] μ P := by
  walk_at "mk"
  refine Call.fn ["coefs", "scope"] (by walk_at "ki") (by walk_at "ki") (by intro vs h; match vs, h with | [_, _], _ => rfl) rfl (by decide) (by kernel_rfl) (by decide +kernel) ?_
  walk_at "m"
  refine Ev.dictM fun ep => ?_
  walk_at "m"
  refine Ex.forB [("found", .loc μ.length)] ⟨rfl, trivial⟩ ?_ (by intros; rfl)
  walk_at "m"
  rw [zip_rows]
  refine ⟨fun i μ' => ∃ kvs ep, KvOk (ps.take i) kvs ∧ kvs.length ≤ i ∧ μ' = μ ++ [.dI (kvA kvs) ep], ⟨[], ep, ⟨by simp, (fun _ q => nomatch q), fun _ _ => rfl⟩, Nat.le_refl _, rfl⟩, fun _ _ _ => trivial, ?_, ?_⟩
  · rintro i b μ' hi ⟨kvs, ep, hk, hl, rfl⟩
    obtain ⟨⟨c, x⟩, hr, hri, rfl⟩ := row_at hi
    have hip : i < ps.length := by
      rcases Nat.lt_or_ge i ps.length with q | q
      · exact q
      · rw [List.getElem?_eq_none q] at hri; cases hri
    have h0 : (μ ++ [Cell.dI (kvA kvs) ep])[μ.length]? = some (.dI (kvA kvs) ep) := by simp
    show Asg _ _ _ _ _ (.tup [.int c, .int x]) _ _ _
    walk_at "m"
    refine Call.getI h0 ?_
    rw [hk.get]
    walk_at "m"
    refine SetV.dI h0 (by unfold kvA; rw [List.length_map, sizeLine]; omega) fun ep' => ?_
    rw [List.set_append_right _ _ (Nat.le_refl _), Nat.sub_self, kvA_put]
    walk_at "m"
    exact ⟨⟨rfl, trivial⟩, _, ep', hk.step hri, Nat.le_trans putN_len (by omega), rfl⟩
  · rintro lm' μ' hlm ⟨kvs, ep, hk, hl, rfl⟩
    rw [List.length_map] at hl
    rw [List.length_map, List.take_length] at hk
    have h0 : (μ ++ [Cell.dI (kvA kvs) ep])[μ.length]? = some (.dI (kvA kvs) ep) := by simp
    refine Exs.weaken (lm' := [("found", .loc μ.length)]) ?_ hlm.look
    walk_at "m"
    refine Ev.comp [("found", .loc μ.length)] (by kernel_rfl) ⟨rfl, trivial⟩ ?_ (by intros; rfl)
    walk_at "m"
    refine IterV.dict h0 ?_
    refine ⟨by unfold kvA; rw [List.length_map, List.length_map, sizeLine]; omega, fun i l μ' => l = (ofKv (kvs.take i)).map rowA ∧ μ' = μ ++ [.dI (kvA kvs) ep], ⟨rfl, rfl⟩, ?_, ?_, ?_⟩
    · rintro i l μ' ⟨rfl, rfl⟩
      exact h0
    · rintro i a l μ' hi ⟨rfl, rfl⟩
      obtain ⟨q, hq, hqi, rfl⟩ : ∃ q ∈ kvs, kvs[i]? = some q ∧ a = .int q.1 := by
        unfold kvA at hi
        rw [List.map_map, List.getElem?_map] at hi
        cases e : kvs[i]? with
        | none => rw [e] at hi; cases hi
        | some q => rw [e] at hi; injection hi with hi; exact ⟨q, List.mem_of_getElem? e, rfl, hi.symm⟩
      walk_at "m"
      refine ⟨⟨rfl, trivial⟩, ?_⟩
      walk_at "m"
      refine SubV.dI h0 (hk.at hq) ?_
      walk_at "m"
      refine ⟨fun hb => ?_, fun hb => ?_⟩
      · have e : q.2 = 0 := by simpa using hb
        exact ⟨by rw [ofKv_take hqi, if_pos e, List.append_nil], rfl⟩
      · have e : q.2 ≠ 0 := by simpa using hb
        walk_at "m"
        refine SubV.dI h0 (hk.at hq) ?_
        walk_at "m"
        exact ⟨by rw [ofKv_take hqi, if_neg e, List.map_append]; rfl, rfl⟩
    · rintro l μ' ⟨rfl, rfl⟩
      have e : (List.map (fun q : Int × AV => AV.int q.1) (kvA kvs)).length = kvs.length := by unfold kvA; rw [List.length_map, List.length_map]
      rw [e, List.take_length]
      exact hp _ _ hk.rows
end
end
section
open PySem PySem.Spec PySem.Calls PyProof.Rows PySem.W PySem.SeqAt
section
variable {p : Program} {w : World} {h₀ : Heap} {mg mb : Str → Option Value} {n : Nat} {P : AV → List Cell → Prop} {μ₀ G : List Cell} {σ : St}
theorem m_pinit {l : List AV} (hp : P .none (wa μ₀ [("number", .int (-1)), ("scope", .tup l), ("strength", .str "weak")] [])) : CallC (gd p w h₀ mg mb) (n + 1) (.ref 262) [.obj 364 μ₀.length, .tup l, .str "weak"] (μ₀ ++ [.att []]) P := by
  walk_at "mk"
  refine CallC.fn ["self", "scope", "strength"] (by walk_at "ki") (by walk_at "ki") (by intro vs h; match vs, h with | [_, _, _], _ => rfl) rfl (by decide) (by kernel_rfl) (by decide +kernel) ?_
  show Exs _ _ _ _ _ (wa μ₀ [] []) _
  walk_at "m"
  refine SetA.att wa0 (by exact ltL rfl) ?_ (by walk_at "ki") (by walk_at "ki") (by walk_at "ki") (by kernel_rfl)
  rw [wa_set0]
  walk_at "m"
  refine SetA.att wa0 (by exact ltL rfl) ?_ (by walk_at "ki") (by walk_at "ki") (by walk_at "ki") (by kernel_rfl)
  rw [wa_set0]
  walk_at "m"
  refine SetA.att wa0 (by exact ltL rfl) ?_ (by walk_at "ki") (by walk_at "ki") (by walk_at "ki") (by kernel_rfl)
  rw [wa_set0]
  walk_at "m"
  exact hp
noncomputable def attL (ps rows : List (Int × Nat)) (c : Int) : List (String × AV) :=
  [("number", .int (-1)), ("scope", .tup (ps.map fun r => .int r.2)), ("strength", .str "weak"), ("coefs", .tup (ps.map fun r => .int r.1)), ("c", .int c), ("rows", .lst (rows.map rowA)), ("divisor", .int (gcdL rows))]
structure MainOk (p : Program) : Prop where
  file : ((p.main.file : Str) == Str.ofString "/claim/cut.py") = true
  top : (p.main.scope.names.lookup ("super" : Str)).isSome = false
theorem m_linit (hm : MainOk p) {ps : List (Int × Nat)} {c : Int} (hz : ps.length ≤ 1000) (hp : ∀ rows c', RowsOf ps rows → P .none (wa μ₀ (attL ps rows c) [c'])) :
    CallC (gd p w h₀ mg mb) (n + 2) (.ref 337) [.obj 364 μ₀.length, .tup (ps.map fun r => .int r.1), .tup (ps.map fun r => .int r.2), .int c] (μ₀ ++ [.att []]) P := by
  walk_at "mk"
  refine CallC.superInit (i := 0) (f2 := 262) ["self", "coefs", "scope", "c"] (by walk_at "ki") (by walk_at "ki") (by intro vs h; match vs, h with | [_, _, _, _], _ => rfl) rfl (by decide) (by kernel_rfl) (by kernel_rfl) rfl rfl rfl (by walk_at "ki") (by exact rfl) hm.file (by walk_at "ki") (by walk_at "ki") (by walk_at "ki") (by walk_at "ki") (by kernel_rfl) (by decide +kernel) (by decide +kernel) (by decide +kernel) hm.top (by kernel_rfl) (by walk_at "ki") (by walk_at "ki") (by walk_at "ki") (by walk_at "ki") wa0 ?_
  walk_at "m"
  refine m_pinit ?_
  walk_at "m"
  refine SetA.att wa0 (by exact ltL rfl) ?_ (by walk_at "ki") (by walk_at "ki") (by walk_at "ki") (by kernel_rfl)
  rw [wa_set0]
  walk_at "m"
  refine SetA.att wa0 (by exact ltL rfl) ?_ (by walk_at "ki") (by walk_at "ki") (by walk_at "ki") (by kernel_rfl)
  rw [wa_set0]
  walk_at "m"
  refine c_rows_of hz fun rows c' hr => ?_
  rw [wa_app]
  walk_at "m"
  refine SetA.att wa0 (by exact ltL rfl) ?_ (by walk_at "ki") (by walk_at "ki") (by walk_at "ki") (by kernel_rfl)
  rw [wa_set0]
  walk_at "m"
  refine c_divisor_of ?_
  walk_at "m"
  refine SetA.att wa0 (by exact ltL rfl) ?_ (by walk_at "ki") (by walk_at "ki") (by walk_at "ki") (by kernel_rfl)
  rw [wa_set0]
  walk_at "m"
  exact hp _ _ hr
end
end
section
open PySem PySem.Spec PySem.Calls PyProof.Rows PySem.W PySem.SeqAt
section
variable {p : Program} {w : World} {h₀ : Heap} {mg mb : Str → Option Value} {n : Nat} {P : AV → List Cell → Prop} {μ₀ G : List Cell} {σ : St}
noncomputable def bnd (ps : List (Int × Nat)) (D : List IP) : List AV := ps.map fun q => ipA (dv D q.2)
theorem map_at {α : Type} {f : α → AV} {l : List α} {i : Nat} {b : AV} (h : (l.map f)[i]? = some b) : ∃ r ∈ l, l[i]? = some r ∧ b = f r := by
  rw [List.getElem?_map] at h
  cases e : l[i]? with
  | none => rw [e] at h; cases h
  | some r => rw [e] at h; injection h with h; exact ⟨r, List.mem_of_getElem? e, rfl, h.symm⟩
theorem c_bounds {j : Nat} {ps rows : List (Int × Nat)} {c : Int} {D : List IP} {r : List Ent} (hS : SS D r σ) (hz : ps.length ≤ 1000) (h3 : ∀ q ∈ ps, q.2 < 3) (hg : (wr μ₀ σ G)[μ₀.length + (6 + j)]? = some (.att (attL ps rows c)))
    (hp : P (.lst (bnd ps D)) (wr μ₀ σ G)) :
    Call (gd p w h₀ mg mb) (n + 3) (.ref 342) [.obj 364 (μ₀.length + (6 + j)), .obj 244 μ₀.length] (wr μ₀ σ G) P := by
  walk_at "mk"
  refine Call.fn ["self", "store"] (by walk_at "ki") (by walk_at "ki") (by intro vs h; match vs, h with | [_, _], _ => rfl) rfl (by decide) (by kernel_rfl) (by decide +kernel) ?_
  walk_at "m"
  refine Ev.comp [("store", .obj 244 μ₀.length)] (by kernel_rfl) ⟨rfl, trivial⟩ ?_ (by intros; rfl)
  walk_at "m"
  refine ⟨by rw [List.length_map, sizeLine]; omega, fun i l μ => l = bnd (ps.take i) D ∧ μ = wr μ₀ σ G, ⟨rfl, rfl⟩, fun _ _ _ _ => trivial, ?_, ?_⟩
  · rintro i a l μ hi ⟨rfl, rfl⟩
    obtain ⟨q, hq, hqi, rfl⟩ := map_at hi
    walk_at "m"
    refine ⟨⟨rfl, trivial⟩, ?_⟩
    walk_at "m"
    refine m_low (h3 q hq) (hS.at (h3 q hq)) ?_
    walk_at "m"
    refine m_high (h3 q hq) (hS.at (h3 q hq)) ?_
    walk_at "m"
    exact ⟨(take1 hqi).symm, rfl⟩
  · rintro l μ ⟨rfl, rfl⟩
    rw [List.length_map, List.take_length]
    exact hp
end
end
section
open PySem PySem.Spec PySem.Calls PyProof.Rows PySem.W PySem.SeqAt
section
variable {p : Program} {w : World} {h₀ : Heap} {mg mb : Str → Option Value} {n : Nat} {P : AV → List Cell → Prop} {μ₀ G : List Cell} {σ : St}
theorem c_strike_le0 {c : Int} (hc : c < 0) (hp : ∀ G', P (.bool false) (wr μ₀ { σ with failed := true, clash := [] } (G ++ G'))) :
    Call (gd p w h₀ mg mb) (n + 5) (.ref 314) [.obj 244 μ₀.length, .lst ([].map rowA), .int c] (wr μ₀ σ G) P := by
  walk_at "mk"
  refine Call.fn ["store", "rows", "c"] (by walk_at "ki") (by walk_at "ki") (by intro vs h; match vs, h with | [_, _, _], _ => rfl) rfl (by decide) (by kernel_rfl) (by decide +kernel) ?_
  walk_at "m"
  refine Ev.comp [("store", .obj 244 μ₀.length)] (by kernel_rfl) ⟨rfl, trivial⟩ ?_ (by intros; rfl)
  walk_at "m"
  refine ⟨fun i l μ => l = [] ∧ μ = wr μ₀ σ G, ⟨rfl, rfl⟩, fun _ _ _ _ => trivial, ?_, ?_⟩
  · intro i a l μ hi
    simp at hi
  · rintro l μ ⟨rfl, rfl⟩
    walk_at "m"
    refine Call.sum (l := []) ?_
    walk_at "m"
    rw [show decide (c - [].sum < 0) = true from decide_eq_true (by simpa using hc)]
    walk_at "m"
    refine c_least_reasons (rows := []) ⟨(fun _ q => nomatch q), Nat.zero_le _⟩ fun rs G' hrs => ?_
    have : rs = [] := List.eq_nil_of_length_eq_zero (Nat.le_zero.mp hrs)
    subst this
    walk_at "m"
    refine m_fail ?_
    exact hp G'
noncomputable def neg (rows : List (Int × Nat)) : List (Int × Nat) := rows.map fun r => (-r.1, r.2)
theorem c_prop_no {j : Nat} {ps rows : List (Int × Nat)} {c : Int} (hg : (wr μ₀ σ G)[μ₀.length + (6 + j)]? = some (.att (attL ps rows c))) (h1 : 1 < gcdL rows) (h2 : c.fmod (gcdL rows) ≠ 0)
    (hp : P (.bool false) (wr μ₀ { σ with failed := true, clash := [] } G)) :
    Call (gd p w h₀ mg mb) (n + 6) (.ref 347) [.obj 364 (μ₀.length + (6 + j)), .obj 244 μ₀.length] (wr μ₀ σ G) P := by
  walk_at "mk"
  refine Call.fn ["self", "store"] (by walk_at "ki") (by walk_at "ki") (by intro vs h; match vs, h with | [_, _], _ => rfl) rfl (by decide) (by kernel_rfl) (by decide +kernel) ?_
  walk_at "m"
  rw [show decide ((1 : Int) < (gcdL rows : Int)) = true from decide_eq_true (by omega)]
  walk_at "m"
  refine BinV.mod (by omega) ?_
  walk_at "m"
  rw [decide_eq_false h2]
  walk_at "m"
  exact m_fail hp
theorem Ex.iteF {g : Gd} {sc : Scope} {lm : Lm} {μ : List Cell} {test : Expr} {body orelse : List Stmt} {pos : Pos} {Q : Fl → Lm → List Cell → Prop} (h : Tst g n sc test lm μ fun b μ₁ => b = false ∧ μ₁ = μ) (h2 : Exs g n sc orelse lm μ Q) : Ex g n sc (.If test body orelse pos) lm μ Q :=
  Ex.ite (h.mono fun b μ₁ e => by obtain ⟨e1, e2⟩ := e; subst e1 e2; exact Mine.iteF rfl h2)
theorem neg_map {rows : List (Int × Nat)} : (neg rows).map rowA = rows.map fun r => rowA (-r.1, r.2) := by unfold neg; rw [List.map_map]; rfl
theorem neg_dot {rows : List (Int × Nat)} {s : Nat → Int} : dot (neg rows) s = -dot rows s := by
  induction rows with
  | nil => rfl
  | cons r rows ih =>
    unfold dot neg at *
    simp only [List.map_cons, List.sum_cons] at *
    rw [ih, Int.neg_mul]
    omega
theorem bnd_dat {ps : List (Int × Nat)} {D : List IP} : ∀ a ∈ bnd ps D, datD 1 a := by
  intro a ha
  obtain ⟨q, _, rfl⟩ := List.mem_map.mp ha
  intro b hb
  simp at hb
  rcases hb with rfl | rfl <;> trivial
theorem wrA {j : Nat} {c : Cell} (h : (wr μ₀ σ G)[μ₀.length + (6 + j)]? = some c) (σ' : St) (G' : List Cell) : (wr μ₀ σ' (G ++ G'))[μ₀.length + (6 + j)]? = some c := by
  have hl : (cellsS μ₀.length σ).length = 6 := rfl
  rw [wr_at, Nat.add_comm, List.getElem?_append_right (by omega), hl, Nat.add_sub_cancel] at h
  apply wrG
  rw [List.getElem?_append_left]
  · exact h
  · rcases Nat.lt_or_ge j G.length with q | q
    · exact q
    · rw [List.getElem?_eq_none q] at h; cases h
noncomputable def bef (ps : List (Int × Nat)) : Option (List IP) → AV
  | none => .none
  | some D => .lst (bnd ps D)
theorem cmp_bef {g : Gd} {μ : List Cell} {ps : List (Int × Nat)} {D : List IP} {b : Option (List IP)} {P : AV → List Cell → Prop} (h : ∀ q : Bool, (q = true → b ≠ some D) → P (.bool q) μ) : CmpV g (n + 2) .NotEq (bef ps b) (.lst (bnd ps D)) μ P := by
  cases b with
  | none => exact CmpV.neNoneLst (.fro _) (h true fun _ e => nomatch e)
  | some D' =>
    refine CmpV.neLst 1 (by omega) (.fro _) (.fro _) bnd_dat bnd_dat fun q hq => h q fun e e' => ?_
    cases e'
    rw [hq.mpr rfl] at e
    cases e
theorem c_prop_yes {j : Nat} {ps rows : List (Int × Nat)} {c : Int} {D : List IP} {r : List Ent} {s : Nat → Int} (hS : SS D r σ) (hh : holdsD s D) (hrows : ∀ r ∈ rows, r.2 < 3 ∧ r.1 ≠ 0 ∧ -1000 < r.1 ∧ r.1 < 1000) (hl3 : rows.length ≤ 3) (hz : ps.length ≤ 1000) (h3 : ∀ q ∈ ps, q.2 < 3) (hg : (wr μ₀ σ G)[μ₀.length + (6 + j)]? = some (.att (attL ps rows c))) (h1 : 1 < gcdL rows → c.fmod (gcdL rows) = 0)
    (hc : dot rows s = c) (hp : ∀ D' r' σ' G', SS D' r' σ' → P (.bool true) (wr μ₀ σ' (G ++ G'))) : Call (gd p w h₀ mg mb) (n + 6) (.ref 347) [.obj 364 (μ₀.length + (6 + j)), .obj 244 μ₀.length] (wr μ₀ σ G) P := by
  walk_at "mk"
  refine Call.fn ["self", "store"] (by walk_at "ki") (by walk_at "ki") (by intro vs h; match vs, h with | [_, _], _ => rfl) rfl (by decide) (by kernel_rfl) (by decide +kernel) ?_
  refine Exs.cons (Ex.iteF ?_ ?_)
  · walk_at "m"
    refine ⟨fun hb => ?_, fun hb => ?_⟩
    · have hb' : 1 < gcdL rows := by have := of_decide_eq_true hb; omega
      walk_at "m"
      refine BinV.mod (by omega) ?_
      walk_at "m"
      rw [h1 hb']
      walk_at "m"
      exact ⟨rfl, rfl⟩
    · exact ⟨rfl, rfl⟩
  walk_at "m"
  refine Ex.assignW ["turned", "before"] ?_ (by walk_at "sw")
  walk_at "m"
  refine Ev.comp [] (by kernel_rfl) trivial ?_ (by intros; rfl)
  walk_at "m"
  refine ⟨by rw [List.length_map, sizeLine]; omega, fun i l μ => l = (neg (rows.take i)).map rowA ∧ μ = wr μ₀ σ G, ⟨rfl, rfl⟩, fun _ _ _ _ => trivial, ?_, ?_⟩
  · rintro i a l μ hi ⟨rfl, rfl⟩
    obtain ⟨r, hr, hri, rfl⟩ := row_at hi
    show Asg _ _ _ _ _ (.tup [.int r.1, .int r.2]) _ _ _
    walk_at "m"
    refine ⟨trivial, ?_⟩
    walk_at "m"
    exact ⟨by rw [neg_map, neg_map]; exact (take1 hri).symm, rfl⟩
  rintro l μ ⟨rfl, rfl⟩
  rw [List.length_map, List.take_length]
  walk_at "m"
  have hneg : ∀ r ∈ neg rows, r.2 < 3 ∧ r.1 ≠ 0 ∧ -1000 < r.1 ∧ r.1 < 1000 := by
    intro r hr
    obtain ⟨q, hq, rfl⟩ := List.mem_map.mp hr
    have := hrows q hq
    exact ⟨this.1, by show -q.1 ≠ 0; omega, by show -1000 < -q.1; omega, by show -q.1 < 1000; omega⟩
  refine Ex.whileS (S := Option (List IP)) (fun b => [("before", bef ps b), ("turned", .lst ((neg rows).map rowA)), ("self", .obj 364 (μ₀.length + (6 + j))), ("store", .obj 244 μ₀.length)])
    (fun k b μ => ∃ D r σ' G', SS D r σ' ∧ holdsD s D ∧ (k = 2 * W D + 1 ∨ b = some D ∧ k = 2 * W D) ∧ μ = wr μ₀ σ' (G ++ G')) (2 * W D + 1) none ⟨rfl, rfl, rfl, rfl, trivial⟩ ⟨D, r, σ, [], hS, hh, .inl rfl, by rw [List.append_nil]⟩ ?_
  rintro k b μ ⟨D, r, σ', G', hS, hh, hk, rfl⟩
  have hg1 := wrA hg σ' G'
  walk_at "m"
  refine c_bounds hS hz h3 hg1 ?_
  refine cmp_bef fun q hq => ?_
  walk_at "m"
  refine ⟨fun hb => ?_, fun hb lm' hlm => ?_⟩
  · have hk' : k = 2 * W D + 1 := hk.elim id fun e => absurd e.1 (hq hb)
    walk_at "m"
    refine c_bounds hS hz h3 hg1 ?_
    walk_at "m"
    refine c_strike_le hS hh hrows hl3 (by omega) fun D1 r1 σ1 G1 hS1 hh1 hD1 => ?_
    rw [List.append_assoc]
    have hg2 := wrA hg σ1 (G' ++ G1)
    walk_at "m"
    refine c_strike_le hS1 hh1 hneg (by unfold neg; rw [List.length_map]; exact hl3) (by rw [neg_dot]; omega) fun D2 r2 σ2 G2 hS2 hh2 hD2 => ?_
    rw [List.append_assoc]
    walk_at "m"
    refine ⟨some D, ⟨rfl, rfl, rfl, rfl, trivial⟩, ?_⟩
    rcases hD1 with rfl | hD1 <;> rcases hD2 with rfl | hD2
    · exact ⟨_, by omega, D2, r2, σ2, _, hS2, hh2, .inr ⟨rfl, rfl⟩, rfl⟩
    all_goals exact ⟨_, by omega, D2, r2, σ2, _, hS2, hh2, .inl rfl, rfl⟩
  · refine Exs.weaken (lm' := []) ?_ (fun _ _ h => nomatch h)
    walk_at "m"
    exact hp _ _ _ _ hS
end
end
section
open PySem PySem.Spec PySem.Calls PyProof.Rows PySem.W PySem.SeqAt
section
variable {p : Program} {w : World} {h₀ : Heap} {mg mb : Str → Option Value} {n : Nat} {P : AV → List Cell → Prop} {μ₀ G : List Cell} {σ : St}
theorem c_strike_le00 {c : Int} (hc : ¬ c < 0) (hp : P (.bool true) (wr μ₀ σ G)) :
    Call (gd p w h₀ mg mb) (n + 5) (.ref 314) [.obj 244 μ₀.length, .lst ([].map rowA), .int c] (wr μ₀ σ G) P := by
  walk_at "mk"
  refine Call.fn ["store", "rows", "c"] (by walk_at "ki") (by walk_at "ki") (by intro vs h; match vs, h with | [_, _, _], _ => rfl) rfl (by decide) (by kernel_rfl) (by decide +kernel) ?_
  walk_at "m"
  refine Ev.comp [("store", .obj 244 μ₀.length)] (by kernel_rfl) ⟨rfl, trivial⟩ ?_ (by intros; rfl)
  walk_at "m"
  refine ⟨fun i l μ => l = [] ∧ μ = wr μ₀ σ G, ⟨rfl, rfl⟩, fun _ _ _ _ => trivial, ?_, ?_⟩
  · intro i a l μ hi
    simp at hi
  · rintro l μ ⟨rfl, rfl⟩
    walk_at "m"
    refine Call.sum (l := []) ?_
    walk_at "m"
    rw [show decide (c - [].sum < 0) = false from decide_eq_false (by simpa using hc)]
    walk_at "m"
    refine Ex.forB [] trivial ?_ (by intros; rfl)
    walk_at "m"
    refine ⟨fun i μ => μ = wr μ₀ σ G, rfl, fun _ _ _ => trivial, ?_, ?_⟩
    · intro i a μ hi
      cases hi
    · rintro lm' μ' hlm rfl
      refine Exs.weaken (lm' := []) ?_ (fun _ _ h => nomatch h)
      walk_at "m"
      exact hp
theorem c_prop0 {j : Nat} {ps : List (Int × Nat)} {c : Int} {D : List IP} {r : List Ent} (hS : SS D r σ) (hh : ∃ s, holdsD s D) (hz : ps.length ≤ 1000) (h3 : ∀ q ∈ ps, q.2 < 3) (hg : (wr μ₀ σ G)[μ₀.length + (6 + j)]? = some (.att (attL ps [] c)))
    (hc : c ≠ 0) (hp : ∀ G' σ', SS D r σ' → P (.bool false) (wr μ₀ { σ' with failed := true, clash := [] } (G ++ G'))) : Call (gd p w h₀ mg mb) (n + 6) (.ref 347) [.obj 364 (μ₀.length + (6 + j)), .obj 244 μ₀.length] (wr μ₀ σ G) P := by
  obtain ⟨s, hh⟩ := hh
  walk_at "mk"
  refine Call.fn ["self", "store"] (by walk_at "ki") (by walk_at "ki") (by intro vs h; match vs, h with | [_, _], _ => rfl) rfl (by decide) (by kernel_rfl) (by decide +kernel) ?_
  refine Exs.cons (Ex.iteF ?_ ?_)
  · walk_at "m"
    exact ⟨rfl, rfl⟩
  walk_at "m"
  refine Ex.assignW ["turned", "before"] ?_ (by walk_at "sw")
  walk_at "m"
  refine Ev.comp [] (by kernel_rfl) trivial ?_ (by intros; rfl)
  walk_at "m"
  refine ⟨fun i l μ => l = [] ∧ μ = wr μ₀ σ G, ⟨rfl, rfl⟩, fun _ _ _ _ => trivial, ?_, ?_⟩
  · intro i a l μ hi
    simp at hi
  rintro l μ ⟨rfl, rfl⟩
  walk_at "m"
  refine Ex.whileB [("before", .none), ("turned", .lst ([].map rowA)), ("self", .obj 364 (μ₀.length + (6 + j))), ("store", .obj 244 μ₀.length)]
    (fun k μ => μ = wr μ₀ σ G) 0 ⟨rfl, rfl, rfl, rfl, trivial⟩ rfl ?_
  rintro k μ rfl
  walk_at "m"
  refine c_bounds hS hz h3 hg ?_
  refine CmpV.neNoneLst (.fro _) ?_
  walk_at "m"
  refine c_bounds hS hz h3 hg ?_
  walk_at "m"
  rcases Int.lt_or_gt_of_ne hc with hc | hc
  · refine c_strike_le0 hc fun G' => ?_
    walk_at "m"
    exact hp _ _ hS
  · refine c_strike_le00 (by omega) ?_
    walk_at "m"
    refine c_strike_le0 (by omega) fun G' => ?_
    walk_at "m"
    exact hp _ _ hS
end
end
section
open PySem PySem.Spec PySem.Calls PyProof.Rows PySem.W PySem.SeqAt
section
variable {p : Program} {w : World} {h₀ : Heap} {mg mb : Str → Option Value} {n : Nat} {P : AV → List Cell → Prop} {μ G : List Cell}
noncomputable def fd (cs : List Int) (sp : Nat) : Cell := .dS [("cells", .lst (cs.map .int)), ("spot", .int sp)]
theorem c_draw {cs : List Int} {sp : Nat} {many : Int} (h0 : 0 < cs.length) (hz : cs.length ≤ 1000) (hs : sp < 900) (hm : 0 < many) (hp : ∀ v : Int, 0 ≤ v → v < many → P (.int v) (fd cs (sp + 1) :: G)) :
    Call (gd p w h₀ mg mb) (n + 1) (.ref 374) [.loc 0, .int many] (fd cs sp :: G) P := by
  have hf : (fd cs sp :: G)[0]? = some (.dS [("cells", .lst (cs.map .int)), ("spot", .int sp)]) := rfl
  walk_at "mk"
  refine Call.fn ["feed", "many"] (by walk_at "ki") (by walk_at "ki") (by intro vs h; match vs, h with | [_, _], _ => rfl) rfl (by decide) (by kernel_rfl) (by decide +kernel) ?_
  walk_at "m"
  refine Ex.assignW ["cells", "spot"] ?_ (by walk_at "sw")
  walk_at "m"
  refine SubV.dS hf rfl ?_
  walk_at "m"
  refine SubV.dS hf rfl ?_
  walk_at "m"
  refine SetV.dS hf (by exact szL rfl) ?_
  show Exs _ _ _ _ _ (.dS [("cells", .lst (cs.map .int)), ("spot", .int ((sp : Int) + 1))] :: G) _
  walk_at "m"
  refine Call.len (.fro _) (by rw [List.length_map]; omega) ?_
  rw [List.length_map]
  refine BinV.div (by omega) (PyProof.noPylong_small (by omega)) ?_
  rw [← Int.ofNat_fdiv]
  have hlap : sp / cs.length < 900 := Nat.lt_of_le_of_lt (Nat.div_le_self _ _) hs
  walk_at "m"
  refine Call.len (.fro _) (by rw [List.length_map]; omega) ?_
  rw [List.length_map]
  refine BinV.mod (by omega) ?_
  rw [← Int.ofNat_fmod]
  have hk : sp % cs.length < cs.length := Nat.mod_lt _ h0
  refine SubV.lst (.fro _) (by omega) (by rw [List.getElem?_map, List.getElem?_eq_getElem hk]; rfl) ?_
  walk_at "m"
  refine BinV.div (by omega) (PyProof.noPylong_small (by decide)) ?_
  walk_at "m"
  refine BinV.mul (mulOk (by generalize sp / cs.length = q at hlap ⊢; omega)) ?_
  walk_at "m"
  refine BinV.mod (by omega) ?_
  rw [Int.fmod_eq_emod_of_nonneg _ (by omega)]
  exact hp _ (Int.emod_nonneg _ (by omega)) (Int.emod_lt_of_pos _ hm)
noncomputable def gath (ps : List (Int × Nat)) (k : Nat) : List (Int × Nat) := ((List.range k).filter fun x => tot ps x != 0).map fun x => (tot ps x, x)
theorem gath_succ {ps : List (Int × Nat)} {k : Nat} : gath ps (k + 1) = gath ps k ++ if tot ps k = 0 then [] else [(tot ps k, k)] := by
  unfold gath
  rw [List.range_succ, List.filter_append, List.map_append]
  congr 1
  by_cases e : tot ps k = 0 <;> simp [e]
theorem c_gathered {ps : List (Int × Nat)} (hz : ps.length ≤ 1000) (hp : P (.loc μ.length) (μ ++ [.lst ((gath ps 3).map rowA)])) :
    Call (gd p w h₀ mg mb) (n + 2) (.ref 379) [.tup (ps.map fun r => .int r.1), .tup (ps.map fun r => .int r.2)] μ P := by
  walk_at "mk"
  refine Call.fn ["coefs", "scope"] (by walk_at "ki") (by walk_at "ki") (by intro vs h; match vs, h with | [_, _], _ => rfl) rfl (by decide) (by kernel_rfl) (by decide +kernel) ?_
  walk_at "m"
  refine Ev.listM ?_
  walk_at "m"
  refine Ex.forB [("found", .loc μ.length), ("coefs", .tup (ps.map fun r => .int r.1)), ("scope", .tup (ps.map fun r => .int r.2))] ⟨rfl, rfl, rfl, trivial⟩ ?_ (by intros; rfl)
  walk_at "m"
  refine CallI.range (by decide) (by decide) ?_
  refine ⟨fun i μ' => μ' = μ ++ [.lst ((gath ps i).map rowA)], rfl, fun _ _ _ => trivial, ?_, ?_⟩
  · rintro i a μ' hi rfl
    have h0 : (μ ++ [Cell.lst ((gath ps i).map rowA)])[μ.length]? = some (.lst ((gath ps i).map rowA)) := by simp
    have hi3 : i < 3 := by
      rcases Nat.lt_or_ge i 3 with q | q
      · exact q
      · rw [List.getElem?_eq_none (by rw [intsA_length]; exact q)] at hi; cases hi
    have hgl : (gath ps i).length ≤ 3 := by
      unfold gath
      rw [List.length_map]
      exact Nat.le_trans (List.length_filter_le _ _) (by rw [List.length_range]; omega)
    obtain rfl : a = .int i := by
      rw [show (3 : Int).toNat = 3 from rfl, intsA_get 3 0 1 i hi3] at hi
      injection hi with hi
      rw [← hi]; congr 1; omega
    walk_at "m"
    refine Ev.comp [("x", .int i)] (by kernel_rfl) ⟨rfl, trivial⟩ ?_ (by intros; rfl)
    walk_at "m"
    rw [zip_rows]
    refine ⟨by rw [List.length_map, sizeLine]; omega, fun k l μ' => l = (((ps.take k).filter fun r => r.2 == i).map fun r => AV.int r.1) ∧ μ' = μ ++ [.lst ((gath ps i).map rowA)], ⟨rfl, rfl⟩, fun _ _ _ _ => trivial, ?_, ?_⟩
    · rintro k b l μ' hk ⟨rfl, rfl⟩
      obtain ⟨⟨c, y⟩, hr, hri, rfl⟩ := row_at hk
      show Asg _ _ _ _ _ (.tup [.int c, .int y]) _ _ _
      walk_at "m"
      refine ⟨⟨rfl, trivial⟩, ?_⟩
      walk_at "m"
      have ht : (ps.take (k + 1)).filter (fun r => r.2 == i) = (ps.take k).filter (fun r => r.2 == i) ++ if i = y then [(c, y)] else [] := by
        rw [List.take_add_one, hri, List.filter_append]
        congr 1
        by_cases e : y = i
        · simp [e]
        · have e' : ¬ i = y := fun q => e q.symm
          simp [e, e']
      refine ⟨fun hb => ?_, fun hb => ?_⟩
      · have e : ¬ i = y := by have := of_decide_eq_false hb; omega
        exact ⟨by rw [ht, if_neg e, List.append_nil], rfl⟩
      · have e : i = y := by have := of_decide_eq_true hb; omega
        walk_at "m"
        exact ⟨by rw [ht, if_pos e, List.map_append]; rfl, rfl⟩
    · rintro l μ' ⟨rfl, rfl⟩
      rw [List.length_map, List.take_length]
      have e : (ps.filter fun r => r.2 == i).map (fun r => AV.int r.1) = ((ps.filter fun r => r.2 == i).map fun r => r.1).map .int := by rw [List.map_map]; rfl
      rw [e]
      walk_at "m"
      refine Call.sum ?_
      show Sto _ _ _ _ _ (.int (tot ps i)) _ _ _
      walk_at "m"
      refine ⟨fun hb => ?_, fun hb => ?_⟩
      · have e : tot ps i ≠ 0 := by simpa using hb
        walk_at "m"
        refine Call.append h0 (by rw [List.length_map, sizeLine]; omega) ?_
        rw [List.set_append_right _ _ (Nat.le_refl _), Nat.sub_self]
        walk_at "m"
        exact ⟨⟨rfl, rfl, rfl, trivial⟩, by show _ = μ ++ [Cell.lst ((gath ps (i + 1)).map rowA)]; rw [gath_succ, if_neg e, List.map_append]; rfl⟩
      · have e : tot ps i = 0 := by simpa using hb
        walk_at "m"
        exact ⟨⟨rfl, rfl, rfl, trivial⟩, by show _ = μ ++ [Cell.lst ((gath ps (i + 1)).map rowA)]; rw [gath_succ, if_pos e, List.append_nil]⟩
  · rintro lm' μ' hlm rfl
    refine Exs.weaken (lm' := [("found", .loc μ.length)]) ?_ (fun x a h => hlm.look x a ?_)
    · walk_at "m"
      exact hp
    · simp only [List.lookup_cons, List.lookup_nil] at h ⊢
      split at h <;> simp_all
end
end
section
open PySem PySem.Spec PySem.Calls PyProof.Rows PySem.W PySem.SeqAt
/-! the plain law: residues, gcd -/
theorem nd_le {α : Type} [DecidableEq α] : ∀ {l₁ l₂ : List α}, l₁.Nodup → (∀ x ∈ l₁, x ∈ l₂) → l₁.length ≤ l₂.length
  | [], _, _, _ => Nat.zero_le _
  | a :: l₁, l₂, h, hs => by
    rw [List.nodup_cons] at h
    have ha := hs a List.mem_cons_self
    have := nd_le (l₁ := l₁) (l₂ := l₂.erase a) h.2 fun x hx => (List.mem_erase_of_ne (fun e : x = a => h.1 (e ▸ hx))).mpr (hs x (List.mem_cons_of_mem _ hx))
    rw [List.length_erase_of_mem ha] at this
    have hp := List.length_pos_of_mem ha
    simp only [List.length_cons]; omega
theorem nd_rng {m : Nat} {F : List Int} (h : F.Nodup) (hr : ∀ k ∈ F, 0 ≤ k ∧ k < m) : F.length ≤ m := by
  have := nd_le (l₂ := (List.range m).map fun i : Nat => (i : Int)) h fun k hk => by
    obtain ⟨h1, h2⟩ := hr k hk
    exact List.mem_map.mpr ⟨k.toNat, List.mem_range.mpr (by omega), by omega⟩
  simpa using this
theorem gcdL_dvd_go : ∀ {rows : List (Int × Nat)} {g : Nat} {d : Nat}, d ∣ rows.foldl (fun g r => Nat.gcd g r.1.natAbs) g ↔ d ∣ g ∧ ∀ r ∈ rows, d ∣ r.1.natAbs
  | [], g, d => by simp
  | r :: rows, g, d => by
    rw [List.foldl_cons, gcdL_dvd_go, Nat.dvd_gcd_iff]
    simp [and_assoc]
theorem dvd_gcdL {rows : List (Int × Nat)} {d : Nat} : d ∣ gcdL rows ↔ ∀ r ∈ rows, d ∣ r.1.natAbs := by
  unfold gcdL; rw [gcdL_dvd_go]; simp
theorem gcdL_dvd {rows : List (Int × Nat)} {r : Int × Nat} (h : r ∈ rows) : (gcdL rows : Int) ∣ r.1 := Int.ofNat_dvd_left.mpr (dvd_gcdL.mp (Nat.dvd_refl _) r h)
theorem gcdL_eq {rows rows' : List (Int × Nat)} (h : ∀ d : Nat, (∀ r ∈ rows, d ∣ r.1.natAbs) ↔ ∀ r ∈ rows', d ∣ r.1.natAbs) : gcdL rows = gcdL rows' :=
  Nat.dvd_antisymm (dvd_gcdL.mpr ((h _).mp (dvd_gcdL.mp (Nat.dvd_refl _)))) (dvd_gcdL.mpr ((h _).mpr (dvd_gcdL.mp (Nat.dvd_refl _))))
theorem gcdL_mem {rows rows' : List (Int × Nat)} (h : ∀ r, r ∈ rows ↔ r ∈ rows') : gcdL rows = gcdL rows' := gcdL_eq fun d => ⟨fun q r hr => q r ((h r).mpr hr), fun q r hr => q r ((h r).mp hr)⟩
theorem gcdL_neg {rows : List (Int × Nat)} : gcdL (rows.map fun r => (0 - r.1, r.2)) = gcdL rows := gcdL_eq fun d => by
  constructor
  · intro h r hr
    have := h _ (List.mem_map.mpr ⟨r, hr, rfl⟩)
    simpa using this
  · intro h r hr
    obtain ⟨q, hq, rfl⟩ := List.mem_map.mp hr
    have := h q hq
    simpa using this
/-- a set of integers, closed under minus -/
structure Grp (S : Int → Prop) : Prop where
  zero : S 0
  sub : ∀ a b, S a → S b → S (a - b)
namespace Grp
variable {S : Int → Prop} (h : Grp S)
include h
theorem neg {a : Int} (x : S a) : S (-a) := by have := h.sub 0 a h.zero x; rwa [Int.zero_sub] at this
theorem add {a b : Int} (x : S a) (y : S b) : S (a + b) := by have := h.sub a (-b) x (h.neg y); rwa [Int.sub_neg] at this
theorem nmul {a : Int} (x : S a) : ∀ k : Nat, S (k * a)
  | 0 => by rw [Int.natCast_zero, Int.zero_mul]; exact h.zero
  | k + 1 => by
    have := h.add (nmul x k) x
    rw [show ((k + 1 : Nat) : Int) * a = k * a + a by rw [Int.natCast_add, Int.add_mul]; simp]
    exact this
theorem mul {a : Int} (x : S a) (k : Int) : S (k * a) := by
  rcases Int.le_total 0 k with q | q
  · have := h.nmul x k.toNat
    rwa [Int.toNat_of_nonneg q] at this
  · have := h.neg (h.nmul x (-k).toNat)
    rw [Int.toNat_of_nonneg (by omega), Int.neg_mul, Int.neg_neg] at this
    exact this
theorem nat {a : Int} (x : S a) : S (a.natAbs : Int) := by
  rcases Int.natAbs_eq a with e | e
  · rw [← e]; exact x
  · have := h.neg x
    rw [e, Int.neg_neg] at this; exact this
theorem gcd : ∀ {b a : Nat}, S a → S b → S (Nat.gcd a b : Nat)
  | 0, a, x, _ => by rw [Nat.gcd_zero_right]; exact x
  | b + 1, a, x, y => by
    rw [Nat.gcd_comm, Nat.gcd_rec, Nat.gcd_comm]
    have hlt : a % (b + 1) < b + 1 := Nat.mod_lt _ (Nat.succ_pos _)
    refine gcd (b := a % (b + 1)) (a := b + 1) y ?_
    have e : ((a % (b + 1) : Nat) : Int) = a - ((a / (b + 1) : Nat) : Int) * ((b + 1 : Nat) : Int) := by
      have := Nat.div_add_mod a (b + 1)
      have h2 : ((b + 1 : Nat) : Int) * ((a / (b + 1) : Nat) : Int) + ((a % (b + 1) : Nat) : Int) = a := by exact_mod_cast this
      rw [Int.mul_comm] at h2
      omega
    rw [e]
    exact h.sub _ _ x (h.mul y _)
  termination_by b => b
theorem fold : ∀ {rows : List (Int × Nat)} {g : Nat}, S g → (∀ r ∈ rows, S r.1) → S (rows.foldl (fun g r => Nat.gcd g r.1.natAbs) g : Nat)
  | [], g, x, _ => x
  | r :: rows, g, x, y => fold (rows := rows) (h.gcd x (h.nat (y r List.mem_cons_self))) fun q hq => y q (List.mem_cons_of_mem _ hq)
theorem of_dvd {rows : List (Int × Nat)} (y : ∀ r ∈ rows, S r.1) {c : Int} (hc : (gcdL rows : Int) ∣ c) : S c := by
  obtain ⟨k, rfl⟩ := hc
  rw [Int.mul_comm]
  exact h.mul (h.fold (g := 0) h.zero y) k
end Grp
/-- what the walk over the residues has found when it ends -/
structure WalkOk (rows : List (Int × Nat)) (m : Nat) (F : List Int) : Prop where
  nd : F.Nodup
  rng : ∀ k ∈ F, 0 ≤ k ∧ k < m
  dv : ∀ k ∈ F, (gcdL rows : Int) ∣ k
  zero : (0 : Int) ∈ F
  cl : ∀ k ∈ F, ∀ r ∈ rows, (k + r.1) % m ∈ F
theorem WalkOk.grp {rows : List (Int × Nat)} {m : Nat} {F : List Int} (h : WalkOk rows m F) (hm : 0 < m) {c : Int} (hc : (gcdL rows : Int) ∣ c) : c % m ∈ F := by
  -- the shifts that keep the set
  let S : Int → Prop := fun a => ∀ k : Int, k % m ∈ F → (k + a) % m ∈ F
  have hS1 : ∀ r ∈ rows, S r.1 := fun r hr k hk => by
    have := h.cl _ hk r hr
    rwa [Int.emod_add_emod] at this
  have hadd : ∀ a b, S a → S b → S (a + b) := fun a b x y k hk => by
    have := y _ (x k hk)
    rwa [Int.add_assoc] at this
  have hz : S 0 := fun k hk => by rwa [Int.add_zero]
  have hmul : ∀ a, S a → ∀ j : Nat, S (j * a) := fun a x j => by
    induction j with
    | zero => rw [Int.natCast_zero, Int.zero_mul]; exact hz
    | succ j ih =>
      rw [show ((j + 1 : Nat) : Int) * a = j * a + a by rw [Int.natCast_add, Int.add_mul]; simp]
      exact hadd _ _ ih x
  have hneg : ∀ a, S a → S (-a) := fun a x k hk => by
    have := hmul a x (m - 1) k hk
    have e : (k + ((m - 1 : Nat) : Int) * a) % m = (k + -a) % m := by
      have e2 : k + ((m - 1 : Nat) : Int) * a = k + -a + m * a := by
        rw [show ((m - 1 : Nat) : Int) = (m : Int) - 1 by omega, Int.sub_mul, Int.one_mul]; omega
      rw [e2, Int.add_mul_emod_self_left]
    rwa [e] at this
  have G : Grp S := ⟨hz, fun a b x y => by have := hadd a (-b) x (hneg b y); rwa [← Int.sub_eq_add_neg] at this⟩
  have := G.of_dvd hS1 hc 0 (by rw [Int.zero_emod]; exact h.zero)
  rwa [Int.zero_add] at this
theorem WalkOk.mem {rows : List (Int × Nat)} {m : Nat} {F : List Int} (h : WalkOk rows m F) (hm : 0 < m) {k : Int} : k ∈ F ↔ (0 ≤ k ∧ k < m) ∧ (gcdL rows : Int) ∣ k := by
  constructor
  · exact fun hk => ⟨h.rng k hk, h.dv k hk⟩
  · rintro ⟨⟨h1, h2⟩, h3⟩
    have := h.grp hm h3
    rwa [Int.emod_eq_of_lt h1 h2] at this
theorem WalkOk.len {rows : List (Int × Nat)} {m : Nat} {F : List Int} (h : WalkOk rows m F) (hm : 0 < m) (hg : gcdL rows ∣ m) : m / F.length = gcdL rows := by
  obtain ⟨q, hq⟩ := hg
  have hg0 : 0 < gcdL rows := Nat.pos_of_ne_zero fun e => by rw [e, Nat.zero_mul] at hq; omega
  have hq0 : 0 < q := Nat.pos_of_ne_zero fun e => by rw [e, Nat.mul_zero] at hq; omega
  have hF : F.length = q := by
    let L : List Int := (List.range q).map fun i => ((gcdL rows * i : Nat) : Int)
    have hL : L.length = q := by simp [L]
    have hLn : L.Nodup := by
      refine List.pairwise_map.mpr ?_
      refine (List.nodup_range (n := q)).imp ?_
      intro a b hab e
      have e' : gcdL rows * a = gcdL rows * b := by exact_mod_cast e
      exact hab (Nat.eq_of_mul_eq_mul_left hg0 e')
    have hmem : ∀ k, k ∈ L ↔ k ∈ F := fun k => by
      rw [h.mem hm, List.mem_map]
      constructor
      · rintro ⟨i, hi, rfl⟩
        have hi := List.mem_range.mp hi
        refine ⟨⟨by omega, ?_⟩, ⟨(i : Int), by rw [Int.natCast_mul]⟩⟩
        rw [hq]
        exact_mod_cast (Nat.mul_lt_mul_left hg0).mpr hi
      · rintro ⟨⟨h1, h2⟩, ⟨t, rfl⟩⟩
        have ht : 0 ≤ t := Int.nonneg_of_mul_nonneg_right h1 (by omega)
        refine ⟨t.toNat, List.mem_range.mpr ?_, ?_⟩
        · rw [hq, Int.natCast_mul] at h2
          have := Int.lt_of_mul_lt_mul_left h2 (by omega)
          omega
        · rw [Int.natCast_mul, Int.toNat_of_nonneg ht]
    have h1 := nd_le hLn fun k hk => (hmem k).mp hk
    have h2 := nd_le h.nd fun k hk => (hmem k).mpr hk
    omega
  rw [hF, hq]
  exact Nat.mul_div_cancel _ hq0
end
section
open PySem PySem.Spec PySem.Calls PyProof.Rows PySem.W PySem.SeqAt
/-- the walk, before its turn t at spot s -/
structure WalkI (rows : List (Int × Nat)) (m s t : Nat) (F : List Int) : Prop where
  nd : F.Nodup
  rng : ∀ k ∈ F, 0 ≤ k ∧ k < m
  dv : ∀ k ∈ F, (gcdL rows : Int) ∣ k
  zero : (0 : Int) ∈ F
  cl : ∀ i, i < s → ∀ k, F[i]? = some k → ∀ r ∈ rows, (k + r.1) % m ∈ F
  part : ∀ k, F[s]? = some k → ∀ r ∈ rows.take t, (k + r.1) % m ∈ F
theorem WalkI.start {rows : List (Int × Nat)} {m : Nat} (hm : 0 < m) : WalkI rows m 0 0 [0] :=
  ⟨by simp, by simp; omega, by simp, by simp, fun i hi => absurd hi (Nat.not_lt_zero _), by simp⟩
theorem WalkI.ends {rows : List (Int × Nat)} {m s : Nat} {F : List Int} (h : WalkI rows m s 0 F) (hs : F.length ≤ s) : WalkOk rows m F :=
  ⟨h.nd, h.rng, h.dv, h.zero, fun k hk r hr => by
    obtain ⟨i, hi, e⟩ := List.mem_iff_getElem.mp hk
    exact h.cl i (by omega) k (by rw [List.getElem?_eq_getElem hi, e]) r hr⟩
theorem WalkI.turn {rows : List (Int × Nat)} {m s : Nat} {F : List Int} (h : WalkI rows m s rows.length F) : WalkI rows m (s + 1) 0 F :=
  ⟨h.nd, h.rng, h.dv, h.zero, fun i hi k hk r hr => by
    rcases Nat.lt_succ_iff_lt_or_eq.mp hi with q | rfl
    · exact h.cl i q k hk r hr
    · exact h.part k hk r (by rw [List.take_length]; exact hr), by simp⟩
theorem WalkI.step {rows : List (Int × Nat)} {m s t : Nat} {F : List Int} {k : Int} {r : Int × Nat} (h : WalkI rows m s t F) (hm : 0 < m) (hg : gcdL rows ∣ m) (hk : F[s]? = some k) (hr : rows[t]? = some r) :
    ((k + r.1) % m ∈ F → WalkI rows m s (t + 1) F) ∧ ((k + r.1) % m ∉ F → WalkI rows m s (t + 1) (F ++ [(k + r.1) % m]) ∧ (F ++ [(k + r.1) % m])[s]? = some k) := by
  have hs : s < F.length := by
    rcases Nat.lt_or_ge s F.length with q | q
    · exact q
    · rw [List.getElem?_eq_none q] at hk; cases hk
  have hmem := List.mem_of_getElem? hk
  have ht : rows.take (t + 1) = rows.take t ++ [r] := by rw [List.take_add_one, hr]; rfl
  constructor
  · intro hin
    refine ⟨h.nd, h.rng, h.dv, h.zero, h.cl, fun k' hk' q hq => ?_⟩
    rw [hk] at hk'; injection hk' with hk'; subst hk'
    rw [ht] at hq
    rcases List.mem_append.mp hq with hq | hq
    · exact h.part k hk q hq
    · simp at hq; subst hq; exact hin
  · intro hnin
    have hk2 : (F ++ [(k + r.1) % m])[s]? = some k := by rw [List.getElem?_append_left hs]; exact hk
    refine ⟨⟨?_, ?_, ?_, List.mem_append_left _ h.zero, ?_, ?_⟩, hk2⟩
    · rw [List.nodup_append]
      refine ⟨h.nd, by simp, ?_⟩
      intro a ha b hb
      simp at hb
      rintro rfl
      exact hnin (hb ▸ ha)
    · intro q hq
      rcases List.mem_append.mp hq with hq | hq
      · exact h.rng q hq
      · simp at hq; subst hq
        exact ⟨Int.emod_nonneg _ (by omega), Int.emod_lt_of_pos _ (by omega)⟩
    · intro q hq
      rcases List.mem_append.mp hq with hq | hq
      · exact h.dv q hq
      · simp at hq; subst hq
        have h1 := h.dv k hmem
        have h2 := gcdL_dvd (List.mem_of_getElem? hr)
        have h3 : (gcdL rows : Int) ∣ (m : Int) := Int.natCast_dvd_natCast.mpr hg
        rw [Int.emod_def]
        exact Int.dvd_sub (Int.dvd_add h1 h2) (Int.dvd_mul_of_dvd_left h3)
    · intro i hi k' hk' q hq
      rw [List.getElem?_append_left (by omega)] at hk'
      exact List.mem_append_left _ (h.cl i hi k' hk' q hq)
    · intro k' hk' q hq
      rw [hk2] at hk'; injection hk' with hk'; subst hk'
      rw [ht] at hq
      rcases List.mem_append.mp hq with hq | hq
      · exact List.mem_append_left _ (h.part k hk q hq)
      · simp at hq; subst hq; simp
noncomputable def kF (F : List Int) : List (Int × AV) := F.map fun k => (k, .bool true)
theorem kF_get {F : List Int} {k : Int} : (getA (kF F) k).isSome = decide (k ∈ F) := by
  unfold getA kF
  rw [Option.isSome_map, List.find?_map, Option.isSome_map]
  rw [Bool.eq_iff_iff, List.find?_isSome, decide_eq_true_iff]
  constructor
  · rintro ⟨x, hx, e⟩
    simp at e; subst e; exact hx
  · exact fun hk => ⟨k, hk, by simp⟩
theorem kF_put {F : List Int} {k : Int} (h : k ∉ F) : putA (kF F) k (.bool true) = kF (F ++ [k]) := by
  unfold putA
  rw [if_neg]
  · unfold kF; rw [List.map_append]; rfl
  · rw [List.any_eq_true]
    rintro ⟨x, hx, e⟩
    obtain ⟨q, hq, rfl⟩ := List.mem_map.mp hx
    simp at e; subst e; exact h hq
theorem two_at0 {μ : List Cell} {a b : Cell} : (μ ++ [a, b])[μ.length]? = some a := by simp
theorem two_at1 {μ : List Cell} {a b : Cell} : (μ ++ [a, b])[μ.length + 1]? = some b := by
  rw [List.getElem?_append_right (by omega), Nat.add_sub_cancel_left]; rfl
theorem two_set0 {μ : List Cell} {a b c : Cell} : (μ ++ [a, b]).set μ.length c = μ ++ [c, b] := by
  rw [List.set_append_right _ _ (Nat.le_refl _), Nat.sub_self]; rfl
theorem two_set1 {μ : List Cell} {a b c : Cell} : (μ ++ [a, b]).set (μ.length + 1) c = μ ++ [a, c] := by
  rw [List.set_append_right _ _ (by omega), Nat.add_sub_cancel_left]; rfl
section
variable {p : Program} {w : World} {h₀ : Heap} {mg mb : Str → Option Value} {n : Nat} {P : AV → List Cell → Prop} {μ : List Cell}
theorem c_walk {rows : List (Int × Nat)} {a : Int} {x : Nat} {rest : List (Int × Nat)} (hrows : rows = (a, x) :: rest) (ha : a ≠ 0) (ha2 : a.natAbs ≤ 1000) (hz : rows.length ≤ 1000)
    (hp : ∀ F ep, WalkOk rows a.natAbs F → P (.tup [.int a.natAbs, .loc (μ.length + 1)]) (μ ++ [.lst (F.map .int), .dI (kF F) ep])) :
    Call (gd p w h₀ mg mb) (n + 1) (.ref 386) [.lst (rows.map rowA)] μ P := by
  have hm : 0 < a.natAbs := Int.natAbs_pos.mpr ha
  have hg : gcdL rows ∣ a.natAbs := dvd_gcdL.mp (Nat.dvd_refl _) (a, x) (by rw [hrows]; exact List.mem_cons_self)
  generalize hma : a.natAbs = m at *
  walk_at "mk"
  refine Call.fn ["pairs"] (by walk_at "ki") (by walk_at "ki") (by intro vs h; match vs, h with | [_], _ => rfl) rfl (by decide) (by kernel_rfl) (by decide +kernel) ?_
  walk_at "m"
  refine Ex.assignW ["modulus", "found", "spot"] ?_ (by walk_at "sw")
  walk_at "m"
  refine SubV.lst (k := 0) (a := .tup [.int a, .int x]) (.fro _) (by decide) (by rw [hrows]; rfl) ?_
  walk_at "m"
  refine SubV.tup (by decide) (by decide) (j := 0) rfl rfl ?_
  walk_at "m"
  rw [abs_nat, hma]
  refine Ev.listM ?_
  walk_at "m"
  refine Ev.dictI1 ?_
  walk_at "m"
  refine ⟨0, .bool true, rfl, fun ep => ?_⟩
  rw [List.length_append, List.append_assoc]
  walk_at "m"
  refine Ex.whileS (S := Nat) (fun s => [("met", .loc (μ.length + 1)), ("modulus", .int m), ("found", .loc μ.length), ("spot", .int s), ("pairs", .lst (rows.map rowA))])
    (fun k s μ' => ∃ F ep, WalkI rows m s 0 F ∧ k = m - s ∧ μ' = μ ++ [.lst (F.map .int), .dI (kF F) ep]) m 0 ⟨rfl, rfl, rfl, rfl, rfl, trivial⟩ ⟨[0], ep, .start hm, rfl, rfl⟩ ?_
  rintro k s μ' ⟨F, ep, hI, hk, rfl⟩
  have hFm := nd_rng hI.nd hI.rng
  walk_at "m"
  refine Call.len (.loc two_at0) (by rw [List.length_map]; omega) ?_
  rw [List.length_map]
  walk_at "m"
  refine ⟨fun hb => ?_, fun hb lm' hlm => ?_⟩
  · have hs : s < F.length := by have := of_decide_eq_true hb; omega
    walk_at "m"
    refine Ex.forB [("met", .loc (μ.length + 1)), ("modulus", .int m), ("found", .loc μ.length), ("spot", .int s), ("pairs", .lst (rows.map rowA))] ⟨rfl, rfl, rfl, rfl, rfl, trivial⟩ ?_ (by intros; rfl)
    walk_at "m"
    refine ⟨fun t μ' => ∃ F ep k, WalkI rows m s t F ∧ F[s]? = some k ∧ μ' = μ ++ [.lst (F.map .int), .dI (kF F) ep], ⟨F, ep, _, hI, List.getElem?_eq_getElem hs, rfl⟩, fun _ _ _ => trivial, ?_, ?_⟩
    · rintro t b μ' ht ⟨F, ep, v, hI, hv, rfl⟩
      obtain ⟨⟨c, y⟩, hr, hri, rfl⟩ := row_at ht
      obtain ⟨st1, st2⟩ := hI.step hm hg hv hri
      have hFm := nd_rng hI.nd hI.rng
      simp only at st1 st2
      show Asg _ _ _ _ _ (.tup [.int c, .int y]) _ _ _
      walk_at "m"
      refine SubV.lst (.loc two_at0) (by omega) (by rw [List.getElem?_map, hv]; rfl) ?_
      walk_at "m"
      refine BinV.mod (by omega) ?_
      rw [Int.fmod_eq_emod_of_nonneg _ (by omega)]
      walk_at "m"
      refine CmpV.notInD two_at1 ?_
      rw [kF_get]
      walk_at "m"
      refine ⟨fun hb => ?_, fun hb => ?_⟩
      · have hn : (v + c) % m ∉ F := by simpa using hb
        obtain ⟨q1, q2⟩ := st2 hn
        walk_at "m"
        refine SetV.dI two_at1 (by unfold kF; rw [List.length_map, sizeLine]; omega) fun ep' => ?_
        rw [two_set1, kF_put hn]
        have h0 : (μ ++ [Cell.lst (F.map .int), .dI (kF (F ++ [(v + c) % m])) ep'])[μ.length]? = some (.lst (F.map .int)) := two_at0
        walk_at "m"
        refine Call.append h0 (by rw [List.length_map, sizeLine]; omega) ?_
        rw [two_set0]
        walk_at "m"
        exact ⟨⟨rfl, rfl, rfl, rfl, rfl, trivial⟩, _, ep', v, q1, q2, by rw [List.map_append]; rfl⟩
      · have hn : (v + c) % m ∈ F := by simpa using hb
        walk_at "m"
        exact ⟨⟨rfl, rfl, rfl, rfl, rfl, trivial⟩, F, ep, v, st1 hn, hv, rfl⟩
    · rintro lm' μ' hlm ⟨F, ep, v, hI, hv, rfl⟩
      rw [List.length_map] at hI
      refine Exs.weaken (lm' := [("met", .loc (μ.length + 1)), ("modulus", .int m), ("found", .loc μ.length), ("spot", .int s), ("pairs", .lst (rows.map rowA))]) ?_ hlm.look
      walk_at "m"
      exact ⟨s + 1, ⟨rfl, rfl, rfl, rfl, rfl, trivial⟩, m - (s + 1), by omega, F, ep, hI.turn, rfl, rfl⟩
  · have hs : F.length ≤ s := by have := of_decide_eq_false hb; omega
    refine Exs.weaken (lm' := [("met", .loc (μ.length + 1)), ("modulus", .int m), ("found", .loc μ.length), ("spot", .int s), ("pairs", .lst (rows.map rowA))]) ?_ hlm.look
    walk_at "m"
    exact hp _ _ (hI.ends hs)
end
end
section
open PySem PySem.Spec PySem.Calls PyProof.Rows PySem.W PySem.SeqAt
structure RowsB (rows : List (Int × Nat)) : Prop where
  l3 : rows.length ≤ 3
  at3 : ∀ r ∈ rows, r.2 < 3 ∧ r.1 ≠ 0 ∧ -100 < r.1 ∧ r.1 < 100
theorem row_dat {rows : List (Int × Nat)} : ∀ a ∈ rows.map rowA, datD 1 a := by
  intro a ha
  obtain ⟨q, _, rfl⟩ := List.mem_map.mp ha
  intro b hb
  simp at hb
  rcases hb with rfl | rfl <;> trivial
noncomputable def fives (rows : List (Int × Nat)) : List (List (Int × Nat)) := [rows, rows.reverse, rows.map fun r => (0 - r.1, r.2), rows ++ rows, rows.drop 1 ++ rows.take 1]
theorem fives_gcd {rows q : List (Int × Nat)} (h : q ∈ fives rows) : gcdL q = gcdL rows := by
  unfold fives at h
  simp only [List.mem_cons, List.not_mem_nil, or_false] at h
  rcases h with rfl | rfl | rfl | rfl | rfl
  · rfl
  · exact gcdL_mem fun r => List.mem_reverse
  · exact gcdL_neg
  · exact gcdL_mem fun r => by simp
  · refine gcdL_mem fun r => ?_
    rw [List.mem_append, or_comm, ← List.mem_append, List.take_append_drop]
theorem neg0_map {rows : List (Int × Nat)} : (rows.map fun r => ((0 - r.1, r.2) : Int × Nat)).map rowA = rows.map fun r => rowA (0 - r.1, r.2) := by rw [List.map_map]; rfl
section
variable {p : Program} {w : World} {h₀ : Heap} {mg mb : Str → Option Value} {n : Nat} {P : AV → List Cell → Prop} {μ : List Cell}
theorem ite_join {g : Gd} {sc : Scope} {b : Bool} {body orelse : List Stmt} {lm : Lm} {μ : List Cell} {Q : Fl → Lm → List Cell → Prop} (R : Fl → Lm → List Cell → Prop) (h1 : b = true → Exs g n sc body lm μ R) (h2 : b = false → Exs g n sc orelse lm μ R) (h : ∀ f l m, R f l m → Q f l m) :
    (b = true → Exs g n sc body lm μ Q) ∧ (b = false → Exs g n sc orelse lm μ Q) := ⟨fun e => (h1 e).mono h, fun e => (h2 e).mono h⟩
theorem c_can_be {rows : List (Int × Nat)} {c : Int} (hB : RowsB rows) (hp : ∀ G b, (b = true ↔ (gcdL rows : Int) ∣ c) → P (.bool b) (μ ++ G)) :
    Call (gd p w h₀ mg mb) (n + 3) (.ref 398) [.lst (rows.map rowA), .int c] μ P := by
  walk_at "mk"
  refine Call.fn ["pairs", "c"] (by walk_at "ki") (by walk_at "ki") (by intro vs h; match vs, h with | [_, _], _ => rfl) rfl (by decide) (by kernel_rfl) (by decide +kernel) ?_
  walk_at "m"
  refine Ev.list ?_
  walk_at "m"
  refine CmpV.eqLst 1 (by omega) (.fro _) (.fro _) row_dat (fun _ q => nomatch q) fun r hr => ?_
  walk_at "m"
  refine ⟨fun hb => ?_, fun hb => ?_⟩
  · have h0 : rows = [] := List.map_eq_nil_iff.mp (hr.mp hb)
    subst h0
    walk_at "m"
    have := hp [] (decide (c = 0)) (by rw [decide_eq_true_iff]; exact Int.zero_dvd.symm)
    rwa [List.append_nil] at this
  · cases rows with
    | nil => rw [hr.mpr rfl] at hb; cases hb
    | cons q rest =>
      obtain ⟨a, x⟩ := q
      have ha := hB.at3 _ List.mem_cons_self
      simp only at ha
      have hm : 0 < a.natAbs := Int.natAbs_pos.mpr ha.2.1
      walk_at "m"
      refine Ex.assignT ?_ (by intros; rfl) (by intros; rfl)
      walk_at "m"
      refine c_walk rfl ha.2.1 (by omega) (Nat.le_trans hB.l3 (by omega)) fun F ep hW => ?_
      walk_at "m"
      refine BinV.mod (by omega) ?_
      rw [Int.fmod_eq_emod_of_nonneg _ (by omega)]
      walk_at "m"
      refine CmpV.inD two_at1 ?_
      rw [kF_get]
      refine hp _ _ ?_
      rw [decide_eq_true_iff]
      constructor
      · intro h
        have h1 := ((hW.mem hm).mp h).2
        have h2 : (gcdL ((a, x) :: rest) : Int) ∣ (a.natAbs : Int) := Int.natCast_dvd_natCast.mpr (dvd_gcdL.mp (Nat.dvd_refl _) (a, x) List.mem_cons_self)
        have h3 := Int.emod_add_mul_ediv c (a.natAbs : Int)
        rw [← h3]
        exact Int.dvd_add h1 (Int.dvd_mul_of_dvd_left h2)
      · exact hW.grp hm
theorem c_div_right {rows : List (Int × Nat)} (hB : RowsB rows) (hp : ∀ G, P (.bool true) (μ ++ G)) :
    Call (gd p w h₀ mg mb) (n + 3) (.ref 391) [.lst (rows.map rowA)] μ P := by
  walk_at "mk"
  refine Call.fn ["pairs"] (by walk_at "ki") (by walk_at "ki") (by intro vs h; match vs, h with | [_], _ => rfl) rfl (by decide) (by kernel_rfl) (by decide +kernel) ?_
  walk_at "m"
  refine Ev.list ?_
  walk_at "m"
  refine CmpV.neLst 1 (by omega) (.fro _) (.fro _) row_dat (fun _ q => nomatch q) fun r hr => ?_
  walk_at "m"
  refine ite_join (fun f l m => f = .next ∧ Inc [("due", .int (gcdL rows)), ("pairs", .lst (rows.map rowA))] l ∧ ∃ G, m = μ ++ G) (fun hb => ?_) (fun hb => ?_) ?_
  · cases rows with
    | nil => rw [hr.mpr rfl] at hb; cases hb
    | cons q rest =>
      obtain ⟨a, x⟩ := q
      have ha := hB.at3 _ List.mem_cons_self
      simp only at ha
      have hm : 0 < a.natAbs := Int.natAbs_pos.mpr ha.2.1
      walk_at "m"
      refine Ex.assignT ?_ (by intros; rfl) (by intros; rfl)
      walk_at "m"
      refine c_walk rfl ha.2.1 (by omega) (Nat.le_trans hB.l3 (by omega)) fun F ep hW => ?_
      have hl := hW.len hm (dvd_gcdL.mp (Nat.dvd_refl _) (a, x) List.mem_cons_self)
      have hF0 : 0 < F.length := List.length_pos_of_mem hW.zero
      have hFm := nd_rng hW.nd hW.rng
      walk_at "m"
      refine Call.lenD two_at1 (by unfold kF; rw [List.length_map]; omega) ?_
      rw [show (kF F).length = F.length by unfold kF; rw [List.length_map]]
      refine BinV.div (by omega) (PyProof.noPylong_small (by omega)) ?_
      rw [← Int.ofNat_fdiv, hl]
      walk_at "m"
      exact ⟨rfl, ⟨rfl, rfl, trivial⟩, _, rfl⟩
  · have h0 : rows = [] := List.map_eq_nil_iff.mp (hr.mp hb)
    subst h0
    walk_at "m"
    exact ⟨rfl, ⟨rfl, rfl, trivial⟩, [], (List.append_nil _).symm⟩
  · rintro f l m ⟨rfl, hl, G, rfl⟩
    refine Exs.weaken (lm' := [("due", .int (gcdL rows)), ("pairs", .lst (rows.map rowA))]) ?_ hl.look
    have h3 := hB.l3
    walk_at "m"
    refine Ev.list ?_
    walk_at "m"
    refine SubV.rev (.fro _) (by rw [List.length_map, sizeLine]; omega) ?_
    walk_at "m"
    refine Ev.comp [] (by kernel_rfl) trivial ?_ (by intros; rfl)
    walk_at "m"
    refine ⟨by rw [List.length_map, sizeLine]; omega, fun i l μ' => l = ((rows.take i).map fun r => ((0 - r.1, r.2) : Int × Nat)).map rowA ∧ μ' = μ ++ G, ⟨rfl, rfl⟩, fun _ _ _ _ => trivial, ?_, ?_⟩
    · rintro i b l μ' hi ⟨rfl, rfl⟩
      obtain ⟨⟨a, x⟩, hr, hri, rfl⟩ := row_at hi
      show Asg _ _ _ _ _ (.tup [.int a, .int x]) _ _ _
      walk_at "m"
      refine ⟨trivial, ?_⟩
      walk_at "m"
      exact ⟨by rw [neg0_map, neg0_map]; exact (take1 hri).symm, rfl⟩
    · rintro l μ' ⟨rfl, rfl⟩
      rw [List.length_map, List.take_length]
      walk_at "m"
      refine BinV.addLst (.fro _) (.fro _) (by rw [List.length_map, sizeLine]; omega) ?_
      walk_at "m"
      refine SubV.from (k := 1) (.fro _) (by rw [List.length_map, sizeLine]; omega) ?_
      walk_at "m"
      refine SubV.upto (k := 1) (.fro _) (by rw [List.length_map, sizeLine]; omega) ?_
      walk_at "m"
      refine BinV.addLst (.fro _) (.fro _) (by rw [List.length_drop, List.length_take, List.length_map, sizeLine]; omega) ?_
      walk_at "m"
      refine Ev.comp [("due", .int (gcdL rows))] (by kernel_rfl) ⟨rfl, trivial⟩ ?_ (by intros; rfl)
      walk_at "m"
      refine ⟨fun i l μ' => l = [] ∧ μ' = μ ++ G, ⟨rfl, rfl⟩, fun _ _ _ _ => trivial, ?_, ?_⟩
      · rintro i b l μ' hi ⟨rfl, rfl⟩
        obtain ⟨q, hq, rfl⟩ : ∃ q, gcdL q = gcdL rows ∧ b = .lst (q.map rowA) := by
          have hi' : ((fives rows).map fun q => AV.lst (q.map rowA))[i]? = some b := by
            rw [← hi]
            congr 1
            unfold fives
            simp [List.map_reverse, List.map_drop, List.map_take]
          obtain ⟨q, hq, _, e⟩ := map_at hi'
          exact ⟨q, fives_gcd hq, e⟩
        walk_at "m"
        refine ⟨⟨rfl, trivial⟩, ?_⟩
        walk_at "m"
        refine c_divisor_of ?_
        rw [hq]
        walk_at "m"
        rw [decide_eq_true rfl]
        exact ⟨fun _ => ⟨rfl, rfl⟩, fun h => nomatch h⟩
      · rintro l μ' ⟨rfl, rfl⟩
        refine Ev.list ?_
        walk_at "m"
        refine CmpV.eqLst 0 (by omega) (.fro _) (.fro _) (fun _ q => nomatch q) (fun _ q => nomatch q) fun r hr => ?_
        rw [hr.mpr rfl]
        exact hp _
end
end
section
open PySem PySem.Spec PySem.Calls PyProof.Rows PySem.W PySem.SeqAt
/-! the plain law: a solution in the box -/
theorem dot_cons {r : Int × Nat} {rows : List (Int × Nat)} {s : Nat → Int} : dot (r :: rows) s = r.1 * s r.2 + dot rows s := by unfold dot; rw [List.map_cons, List.sum_cons]
theorem dot_lin {f h : Nat → Int} {a : Int} : ∀ {rows : List (Int × Nat)}, dot rows (fun x => f x + a * h x) = dot rows f + a * dot rows h
  | [] => by unfold dot; simp
  | r :: rows => by
    rw [dot_cons, dot_cons, dot_cons, dot_lin, Int.mul_add, Int.mul_add, ← Int.mul_assoc, ← Int.mul_assoc, Int.mul_comm r.1 a]
    omega
theorem dot_congr {f h : Nat → Int} : ∀ {rows : List (Int × Nat)}, (∀ r ∈ rows, f r.2 = h r.2) → dot rows f = dot rows h
  | [], _ => rfl
  | r :: rows, e => by rw [dot_cons, dot_cons, e r List.mem_cons_self, dot_congr fun q hq => e q (List.mem_cons_of_mem _ hq)]
theorem dot_zero : ∀ {rows : List (Int × Nat)}, dot rows (fun _ => 0) = 0
  | [] => rfl
  | r :: rows => by rw [dot_cons, dot_zero, Int.mul_zero]; rfl
theorem dot_one : ∀ {rows : List (Int × Nat)} {r : Int × Nat}, (rows.map (·.2)).Nodup → r ∈ rows → dot rows (fun x => if x = r.2 then 1 else 0) = r.1
  | q :: rows, r, hn, hr => by
    rw [List.map_cons, List.nodup_cons] at hn
    rw [dot_cons]
    rcases List.mem_cons.mp hr with rfl | hr
    · rw [if_pos rfl, dot_congr (h := fun _ => 0), dot_zero]
      · omega
      · intro q hq
        exact if_neg fun e : q.2 = r.2 => hn.1 (e ▸ List.mem_map.mpr ⟨q, hq, rfl⟩)
    · have : q.2 ≠ r.2 := fun e => hn.1 (e ▸ List.mem_map.mpr ⟨r, hr, rfl⟩)
      rw [if_neg this, dot_one hn.2 hr]
      omega
theorem dot_sol {rows : List (Int × Nat)} (hn : (rows.map (·.2)).Nodup) {c : Int} (hc : (gcdL rows : Int) ∣ c) : ∃ t, dot rows t = c := by
  have G : Grp fun c => ∃ t, dot rows t = c := by
    refine ⟨⟨fun _ => 0, dot_zero⟩, ?_⟩
    rintro a b ⟨t, rfl⟩ ⟨u, rfl⟩
    refine ⟨fun x => t x + (-1) * u x, ?_⟩
    rw [dot_lin]
    omega
  exact G.of_dvd (fun r hr => ⟨_, dot_one hn hr⟩) hc
theorem term_le {b v A : Int} (h1 : -48 ≤ b) (h2 : b ≤ 48) (h3 : 0 ≤ v) (h4 : v ≤ A) : -(48 * A) ≤ b * v ∧ b * v ≤ 48 * A := by
  have e1 : b * v ≤ 48 * v := Int.mul_le_mul_of_nonneg_right h2 h3
  have e2 : -48 * v ≤ b * v := Int.mul_le_mul_of_nonneg_right h1 h3
  constructor <;> omega
theorem dot_le {s : Nat → Int} {A : Int} (hs : ∀ x, 0 ≤ s x ∧ s x ≤ A) : ∀ {rows : List (Int × Nat)}, (∀ r ∈ rows, -48 ≤ r.1 ∧ r.1 ≤ 48) → -(rows.length * (48 * A)) ≤ dot rows s ∧ dot rows s ≤ rows.length * (48 * A)
  | [], _ => by unfold dot; simp
  | r :: rows, h => by
    have h1 := h r List.mem_cons_self
    obtain ⟨h2, h3⟩ := dot_le hs (rows := rows) fun q hq => h q (List.mem_cons_of_mem _ hq)
    obtain ⟨h4, h5⟩ := term_le h1.1 h1.2 (hs r.2).1 (hs r.2).2
    rw [dot_cons, List.length_cons]
    have e : ((rows.length + 1 : Nat) : Int) * (48 * A) = rows.length * (48 * A) + 48 * A := by rw [Int.natCast_add, Int.add_mul]; simp
    rw [e]
    omega
theorem box {rows : List (Int × Nat)} {c : Int} (hn : (rows.map (·.2)).Nodup) (h3 : rows.length ≤ 3) (hB : ∀ r ∈ rows, r.1 ≠ 0 ∧ -48 ≤ r.1 ∧ r.1 ≤ 48) (hne : rows ≠ []) (hc : (gcdL rows : Int) ∣ c) (hc1 : -30 ≤ c) (hc2 : c ≤ 30) :
    ∃ s : Nat → Int, dot rows s = c ∧ ∀ x, -150 ≤ s x ∧ s x ≤ 150 := by
  obtain ⟨t, ht⟩ := dot_sol hn hc
  cases rows with
  | nil => exact absurd rfl hne
  | cons r rest =>
    obtain ⟨a, x0⟩ := r
    have ha := hB _ List.mem_cons_self
    simp only at ha
    rw [List.map_cons, List.nodup_cons] at hn
    rw [dot_cons] at ht
    simp only at ht
    have hs : ∀ x, 0 ≤ t x % a ∧ t x % a ≤ a.natAbs := fun x => ⟨Int.emod_nonneg _ ha.1, by have := Int.emod_lt (t x) ha.1; omega⟩
    have hsplit : dot rest t = dot rest (fun x => t x % a) + a * dot rest (fun x => t x / a) := by
      rw [← dot_lin]
      exact dot_congr fun r _ => (Int.emod_add_mul_ediv (t r.2) a).symm
    obtain ⟨b1, b2⟩ := dot_le hs (rows := rest) fun q hq => (hB q (List.mem_cons_of_mem _ hq)).2
    have hl : rest.length ≤ 2 := by simp at h3; omega
    generalize hy : t x0 + dot rest (fun x => t x / a) = y
    have hay : a * y = c - dot rest (fun x => t x % a) := by
      rw [← hy, Int.mul_add, ← ht, hsplit]; omega
    have hA : ((rest.length : Nat) : Int) * (48 * (a.natAbs : Int)) ≤ 96 * a.natAbs := by
      have : (rest.length : Int) * (48 * (a.natAbs : Int)) ≤ 2 * (48 * (a.natAbs : Int)) := Int.mul_le_mul_of_nonneg_right (by omega) (by omega)
      omega
    have hyb : -150 ≤ y ∧ y ≤ 150 := by
      have key : ∀ z : Int, 0 ≤ z → (a.natAbs : Int) * z ≤ 30 + 96 * a.natAbs → z ≤ 150 := by
        intro z hz hle
        rcases Int.lt_or_le 150 z with q | q
        · have : (a.natAbs : Int) * 151 ≤ a.natAbs * z := Int.mul_le_mul_of_nonneg_left (by omega) (by omega)
          omega
        · exact q
      have habs : (a.natAbs : Int) * (y.natAbs : Int) = (a * y).natAbs := by rw [Int.natAbs_mul, Int.natCast_mul]
      have := key y.natAbs (by omega) (by rw [habs]; omega)
      omega
    refine ⟨fun x => if x = x0 then y else t x % a, ?_, ?_⟩
    · rw [dot_cons, if_pos rfl, dot_congr (h := fun x => t x % a)]
      · show a * y + _ = c
        omega
      · intro q hq
        exact if_neg fun e : q.2 = x0 => hn.1 (e ▸ List.mem_map.mpr ⟨q, hq, rfl⟩)
    · intro x
      show -150 ≤ (if x = x0 then y else t x % a) ∧ (if x = x0 then y else t x % a) ≤ 150
      split
      · exact hyb
      · have := hs x
        omega
end
section
open PySem PySem.Spec PySem.Calls PyProof.Rows PySem.W PySem.SeqAt
structure SP (b : Bool) (D : List IP) (r : List Ent) (σ : St) : Prop where
  doms : σ.doms = D.map dmp
  trail : σ.trail = r.reverse.map entA
  firsts : σ.firsts = F0.map dmp
  marks : σ.marks = [.int 0]
  len : D.length = 3
  und : undo D r = F0
  xs : ∀ e ∈ r, e.x < 3
  wid : r.length ≤ 900
  fl : σ.failed = !b
  cl : b = false → σ.clash = [] ∧ σ.trail = []
theorem SS.sp {D : List IP} {r : List Ent} {σ : St} (h : SS D r σ) : SP true D r σ :=
  ⟨h.doms, h.trail, h.firsts, h.marks, h.len, h.und, h.xs, by have := h.wid; omega, h.ok, fun e => nomatch e⟩
theorem SS.spf {D : List IP} {σ : St} (h : SS D [] σ) : SP false D [] { σ with failed := true, clash := [] } :=
  ⟨h.doms, h.trail, h.firsts, h.marks, h.len, h.und, h.xs, Nat.zero_le _, rfl, fun _ => ⟨rfl, h.trail⟩⟩
theorem holdsF {s : Nat → Int} (h : ∀ x, -150 ≤ s x ∧ s x ≤ 150) : holdsD s F0 := by
  intro x d hx
  have hd : d = (-150, 150) := by
    unfold F0 at hx
    match x, hx with
    | 0, hx => simpa using hx.symm
    | 1, hx => simpa using hx.symm
    | 2, hx => simpa using hx.symm
    | _ + 3, hx => simp at hx
  subst hd
  exact h x
structure RowsC (rows : List (Int × Nat)) : Prop where
  nd : (rows.map (·.2)).Nodup
  l3 : rows.length ≤ 3
  at3 : ∀ r ∈ rows, r.2 < 3 ∧ r.1 ≠ 0 ∧ -48 ≤ r.1 ∧ r.1 ≤ 48
theorem RowsC.b {rows : List (Int × Nat)} (h : RowsC rows) : RowsB rows := ⟨h.l3, fun r hr => by have := h.at3 r hr; omega⟩
section
variable {p : Program} {w : World} {h₀ : Heap} {mg mb : Str → Option Value} {n : Nat} {P : AV → List Cell → Prop} {μ₀ G μ : List Cell} {σ : St}
theorem c_prop {j : Nat} {ps rows : List (Int × Nat)} {c : Int} (hC : RowsC rows) (hc1 : -30 ≤ c) (hc2 : c ≤ 30) (hS : SS F0 [] σ) (hz : ps.length ≤ 1000) (h3 : ∀ q ∈ ps, q.2 < 3) (hg : (wr μ₀ σ G)[μ₀.length + (6 + j)]? = some (.att (attL ps rows c)))
    (hp : ∀ b D r σ' G', (b = true ↔ (gcdL rows : Int) ∣ c) → SP b D r σ' → P (.bool b) (wr μ₀ σ' (G ++ G'))) : Call (gd p w h₀ mg mb) (n + 6) (.ref 347) [.obj 364 (μ₀.length + (6 + j)), .obj 244 μ₀.length] (wr μ₀ σ G) P := by
  have hrows : ∀ r ∈ rows, r.2 < 3 ∧ r.1 ≠ 0 ∧ -1000 < r.1 ∧ r.1 < 1000 := fun r hr => by have := hC.at3 r hr; omega
  by_cases hd : (gcdL rows : Int) ∣ c
  · have hfm : 1 < gcdL rows → c.fmod (gcdL rows) = 0 := fun _ => by
      rw [Int.fmod_eq_emod_of_nonneg _ (by omega)]
      exact Int.emod_eq_zero_of_dvd hd
    obtain ⟨s, hs, hbox⟩ : ∃ s : Nat → Int, dot rows s = c ∧ ∀ x, -150 ≤ s x ∧ s x ≤ 150 := by
      by_cases hne : rows = []
      · subst hne
        exact ⟨fun _ => 0, by have : c = 0 := Int.zero_dvd.mp hd; rw [this]; rfl, fun _ => by show (-150 : Int) ≤ 0 ∧ (0 : Int) ≤ 150; omega⟩
      · exact box hC.nd hC.l3 (fun r hr => (hC.at3 r hr).2) hne hd hc1 hc2
    exact c_prop_yes hS (holdsF hbox) hrows hC.l3 hz h3 hg hfm hs fun D' r' σ' G' hS' => hp true D' r' σ' G' ⟨fun _ => hd, fun _ => rfl⟩ hS'.sp
  · by_cases hne : rows = []
    · subst hne
      have hc0 : c ≠ 0 := by
        rintro rfl
        exact hd (Int.dvd_zero _)
      exact c_prop0 hS ⟨fun _ => 0, holdsF fun _ => by show (-150 : Int) ≤ 0 ∧ (0 : Int) ≤ 150; omega⟩ hz h3 hg hc0 fun G' σ' hS' => hp false _ _ _ _ ⟨(fun e => nomatch e), fun e => absurd e hd⟩ hS'.spf
    · have hg1 : 1 < gcdL rows := by
        rcases Nat.lt_or_ge 1 (gcdL rows) with q | q
        · exact q
        · exfalso
          rcases Nat.le_one_iff_eq_zero_or_eq_one.mp q with q | q
          · cases rows with
            | nil => exact hne rfl
            | cons r rows =>
              have h1 := gcdL_dvd (rows := r :: rows) (r := r) List.mem_cons_self
              rw [q] at h1
              exact (hC.at3 r List.mem_cons_self).2.1 (Int.zero_dvd.mp h1)
          · rw [q] at hd
            exact hd (Int.one_dvd _)
      refine c_prop_no hg hg1 ?_ ?_
      · rw [Int.fmod_eq_emod_of_nonneg _ (by omega)]
        exact fun e => hd (Int.dvd_of_emod_eq_zero e)
      · have := hp false F0 [] _ [] ⟨(fun e => nomatch e), fun e => absurd e hd⟩ hS.spf
        rwa [List.append_nil] at this
theorem m_dom' {kvs : List (String × AV)} {cs : List Cell} {D : List AV} {x : Nat} {d : AV} (h3 : x < 3) (hx : D[x]? = some d) (hk : getA kvs "domains" = some (.loc (μ₀.length + 1))) (hp : P d (wa μ₀ kvs (.lst D :: cs))) :
    Call (gd p w h₀ mg mb) (n + 1) (.ref 129) [.obj 244 μ₀.length, .int x] (wa μ₀ kvs (.lst D :: cs)) P := by
  walk_at "mk"
  refine Call.fn ["self", "x"] (by walk_at "ki") (by walk_at "ki") (by intro vs h; match vs, h with | [_, _], _ => rfl) rfl (by decide) (by kernel_rfl) (by decide +kernel) ?_
  walk_at "m"
  refine GetV.att wa0 hk ?_ (by walk_at "ki") (by walk_at "ki") (by walk_at "ki") (by walk_at "ki") rfl
  walk_at "m"
  refine SubV.lst (.loc wa1) (small h3) hx ?_
  exact hp
noncomputable def σn (ep k : Nat) : St := ⟨List.replicate k (dmp (-150, 150)), List.replicate k (dmp (-150, 150)), [], [], [], ep, false, []⟩
theorem m_push3 {ep : Nat} (hp : ∀ σ1, SS F0 [] σ1 → P .none (wr μ₀ σ1 G)) : Call (gd p w h₀ mg mb) (n + 1) (.ref 220) [.obj 244 μ₀.length] (wr μ₀ (σn ep 3) G) P :=
  m_push (by exact ltL rfl) (by exact ltL rfl) (hp _ ⟨rfl, rfl, rfl, rfl, Nat.zero_le _, rfl, rfl, (fun _ q => nomatch q), by decide, rfl⟩)
theorem c_asked (hm : MainOk p) {ps rows : List (Int × Nat)} {c : Int} (hC : RowsC rows) (hof : ∀ rows', RowsOf ps rows' → RowsC rows' ∧ gcdL rows' = gcdL rows) (hc1 : -30 ≤ c) (hc2 : c ≤ 30) (hz : ps.length ≤ 1000) (h3 : ∀ q ∈ ps, q.2 < 3)
    (hp : ∀ G', P (.bool true) (μ ++ G')) :
    Call (gd p w h₀ mg mb) (n + 8) (.ref 403) [.tup (ps.map fun r => .int r.1), .tup (ps.map fun r => .int r.2), .lst (rows.map rowA), .int c] μ P := by
  walk_at "mk"
  refine Call.fn ["coefs", "scope", "pairs", "c"] (by walk_at "ki") (by walk_at "ki") (by intro vs h; match vs, h with | [_, _, _, _], _ => rfl) rfl (by decide) (by kernel_rfl) (by decide +kernel) ?_
  walk_at "m"
  refine Call.make (by walk_at "ki") (by walk_at "ki") (by walk_at "ki") (m_init fun ep => ⟨rfl, ?_⟩)
  walk_at "m"
  refine Ex.forB [("store_now", .obj 244 μ.length), ("coefs", .tup (ps.map fun r => .int r.1)), ("scope", .tup (ps.map fun r => .int r.2)), ("pairs", .lst (rows.map rowA)), ("c", .int c)] ⟨rfl, rfl, rfl, rfl, rfl, trivial⟩ ?_ (by intros; rfl)
  walk_at "m"
  refine CallI.range (by decide) (by decide) ?_
  refine ⟨fun i μ' => μ' = wr μ (σn ep i) [], rfl, fun _ _ _ => trivial, ?_, ?_⟩
  · rintro i a μ' hi rfl
    have hi3 : i < 3 := by
      rcases Nat.lt_or_ge i 3 with q | q
      · exact q
      · rw [List.getElem?_eq_none (by rw [intsA_length]; exact q)] at hi; cases hi
    walk_at "m"
    refine m_new_var (d := (-150, 150)) (by show (List.replicate i _).length < 1000; rw [List.length_replicate]; omega) (by show (List.replicate i _).length < 1000; rw [List.length_replicate]; omega) ?_
    walk_at "m"
    refine ⟨⟨rfl, rfl, rfl, rfl, rfl, trivial⟩, ?_⟩
    unfold σn
    simp only [List.replicate_succ']
  · rintro lm' μ' hlm rfl
    refine Exs.weaken (lm' := [("store_now", .obj 244 μ.length), ("coefs", .tup (ps.map fun r => .int r.1)), ("scope", .tup (ps.map fun r => .int r.2)), ("pairs", .lst (rows.map rowA)), ("c", .int c)]) ?_ hlm.look
    walk_at "m"
    refine Call.make (by walk_at "ki") (by walk_at "ki") (by walk_at "ki") (m_linit hm hz fun rows' c' hr' => ⟨rfl, ?_⟩)
    rw [wr_len]
    show Sto _ _ _ _ _ _ _ (wr μ (σn ep 3) [] ++ [.att (attL ps rows' c), c']) _
    rw [wr_app]
    walk_at "m"
    refine m_push3 fun σ1 hS1 => ?_
    obtain ⟨hC', hgc⟩ := hof rows' hr'
    have hg : (wr μ σ1 ([] ++ [Cell.att (attL ps rows' c), c']))[μ.length + (6 + ([] : List Cell).length)]? = some (.att (attL ps rows' c)) := wrG rfl
    walk_at "m"
    refine c_prop hC' hc1 hc2 hS1 hz h3 hg fun b D r σ' G' hb hsp => ?_
    walk_at "m"
    refine c_can_be hC.b fun G'' b' hb' => ?_
    rw [wr_app]
    obtain rfl : b' = b := Bool.eq_iff_iff.mpr (hb'.trans (by rw [← hgc]; exact hb.symm))
    obtain ⟨dd, ff, tt, mm, nn, ee, fl, cl⟩ := σ'
    cases b' with
    | true =>
      obtain rfl : fl = !true := hsp.fl
      walk_at "m"
      refine Mine.iteF' rfl ?_
      walk_at "m"
      refine m_pop (D := D) (F := F0) (r := r) hsp.doms hsp.firsts (by decide) hsp.trail hsp.marks (by have := hsp.wid; omega) (by rw [hsp.len]; exact hsp.xs) (by rw [hsp.len]; exact Nat.le_refl _) fun j cs => ?_
      rw [hsp.und]
      walk_at "m"
      refine Ev.and ?_
      walk_at "m"
      refine Ev.comp [("store_now", .obj 244 μ.length)] (by kernel_rfl) ⟨rfl, trivial⟩ ?_ (by intros; rfl)
      walk_at "m"
      refine CallI.range (by decide) (by decide) ?_
      refine ⟨by decide, fun i l μ' => l = (F0.take i).map dmp ∧ μ' = wa μ (attP μ.length j false []) (.lst (F0.map dmp) :: cs), ⟨rfl, rfl⟩, fun _ _ _ _ => trivial, ?_, ?_⟩
      · rintro i a l μ' hi ⟨rfl, rfl⟩
        have hi3 : i < 3 := by
          rcases Nat.lt_or_ge i 3 with q | q
          · exact q
          · rw [List.getElem?_eq_none (by rw [intsA_length]; exact q)] at hi; cases hi
        obtain rfl : a = .int i := by
          rw [show (3 : Int).toNat = 3 from rfl, intsA_get 3 0 1 i hi3] at hi
          injection hi with hi
          rw [← hi]; congr 1; omega
        have hF : F0[i]? = some (dv F0 i) := dv_at hi3
        walk_at "m"
        refine ⟨⟨rfl, trivial⟩, ?_⟩
        walk_at "m"
        refine m_dom' (d := dmp (dv F0 i)) hi3 (by rw [List.getElem?_map, hF]; rfl) rfl ?_
        exact ⟨(take1 hF).symm, rfl⟩
      · rintro l μ' ⟨rfl, rfl⟩
        walk_at "m"
        refine Ev.list ?_
        walk_at "m"
        refine BinV.mulLst (.fro _) (by decide) (by decide) (by decide) ?_
        refine CmpV.eqLst 2 (by omega) (.fro _) (.fro _) ?_ ?_ fun q hq => ?_
        · intro a ha
          obtain ⟨d, _, rfl⟩ := List.mem_map.mp ha
          exact dm_dat _ _
        · intro a ha
          have ha' : a ∈ [dm (-150) 150, dm (-150) 150, dm (-150) 150] := ha
          simp only [List.mem_cons, List.not_mem_nil, or_false] at ha'
          rcases ha' with rfl | rfl | rfl <;> exact dm_dat _ _
        · obtain rfl : q = true := hq.mpr rfl
          refine TruV.bool (Mine.iteT rfl ?_)
          refine Ev.one ?_
          walk_at "m"
          exact hp _
    | false =>
      obtain rfl : fl = !false := hsp.fl
      obtain rfl : cl = [] := (hsp.cl rfl).1
      obtain rfl : tt = [] := (hsp.cl rfl).2
      walk_at "m"
      refine Mine.iteF' rfl ?_
      walk_at "m"
      refine CmpV.neTup 0 (by omega) (fun _ q => nomatch q) (fun _ q => nomatch q) fun q hq => ?_
      obtain rfl : q = false := hq.mpr rfl
      walk_at "m"
      refine Ev.list ?_
      walk_at "m"
      refine CmpV.neLst 0 (by omega) (.loc wr3) (.fro _) (fun _ q => nomatch q) (fun _ q => nomatch q) fun q hq => ?_
      obtain rfl : q = false := hq.mpr rfl
      walk_at "m"
      refine m_pop (D := D) (F := F0) (r := r) hsp.doms hsp.firsts (by decide) hsp.trail hsp.marks (by have := hsp.wid; omega) (by rw [hsp.len]; exact hsp.xs) (by rw [hsp.len]; exact Nat.le_refl _) fun j cs => ?_
      rw [hsp.und]
      walk_at "m"
      refine Ev.and ?_
      walk_at "m"
      refine Ev.comp [("store_now", .obj 244 μ.length)] (by kernel_rfl) ⟨rfl, trivial⟩ ?_ (by intros; rfl)
      walk_at "m"
      refine CallI.range (by decide) (by decide) ?_
      refine ⟨by decide, fun i l μ' => l = (F0.take i).map dmp ∧ μ' = wa μ (attP μ.length j false []) (.lst (F0.map dmp) :: cs), ⟨rfl, rfl⟩, fun _ _ _ _ => trivial, ?_, ?_⟩
      · rintro i a l μ' hi ⟨rfl, rfl⟩
        have hi3 : i < 3 := by
          rcases Nat.lt_or_ge i 3 with q | q
          · exact q
          · rw [List.getElem?_eq_none (by rw [intsA_length]; exact q)] at hi; cases hi
        obtain rfl : a = .int i := by
          rw [show (3 : Int).toNat = 3 from rfl, intsA_get 3 0 1 i hi3] at hi
          injection hi with hi
          rw [← hi]; congr 1; omega
        have hF : F0[i]? = some (dv F0 i) := dv_at hi3
        walk_at "m"
        refine ⟨⟨rfl, trivial⟩, ?_⟩
        walk_at "m"
        refine m_dom' (d := dmp (dv F0 i)) hi3 (by rw [List.getElem?_map, hF]; rfl) rfl ?_
        exact ⟨(take1 hF).symm, rfl⟩
      · rintro l μ' ⟨rfl, rfl⟩
        walk_at "m"
        refine Ev.list ?_
        walk_at "m"
        refine BinV.mulLst (.fro _) (by decide) (by decide) (by decide) ?_
        refine CmpV.eqLst 2 (by omega) (.fro _) (.fro _) ?_ ?_ fun q hq => ?_
        · intro a ha
          obtain ⟨d, _, rfl⟩ := List.mem_map.mp ha
          exact dm_dat _ _
        · intro a ha
          have ha' : a ∈ [dm (-150) 150, dm (-150) 150, dm (-150) 150] := ha
          simp only [List.mem_cons, List.not_mem_nil, or_false] at ha'
          rcases ha' with rfl | rfl | rfl <;> exact dm_dat _ _
        · obtain rfl : q = true := hq.mpr rfl
          refine TruV.bool (Mine.iteT rfl ?_)
          refine Ev.one ?_
          walk_at "m"
          exact hp _
end
end
section
open PySem PySem.Spec PySem.Calls PyProof.Rows PySem.W PySem.SeqAt
/-! the plain law: the draws' sums -/
theorem lex_uniq : ∀ {l₁ l₂ : List IP}, l₁.Pairwise (fun x y => lexB x y = true) → l₂.Pairwise (fun x y => lexB x y = true) → (∀ x, x ∈ l₁ ↔ x ∈ l₂) → l₁ = l₂
  | [], [], _, _, _ => rfl
  | [], b :: l₂, _, _, h => absurd ((h b).mpr List.mem_cons_self) (fun q => nomatch q)
  | a :: l₁, [], _, _, h => absurd ((h a).mp List.mem_cons_self) (fun q => nomatch q)
  | a :: l₁, b :: l₂, p1, p2, h => by
    rw [List.pairwise_cons] at p1 p2
    have hab : a = b := by
      apply Classical.byContradiction
      intro hne
      have ha : a ∈ l₂ := (List.mem_cons.mp ((h a).mp List.mem_cons_self)).resolve_left hne
      have hb : b ∈ l₁ := (List.mem_cons.mp ((h b).mpr List.mem_cons_self)).resolve_left fun e => hne e.symm
      have h1 := p1.1 b hb
      have h2 := p2.1 a ha
      rw [lexB_asym hne, h1] at h2
      cases h2
    subst hab
    have hn : ∀ {l : List IP}, (∀ a' ∈ l, lexB a a' = true) → a ∉ l := fun hl ha => by
      have := hl a ha
      rw [lexB_irrefl] at this
      cases this
    rw [lex_uniq p1.2 p2.2 fun x => ?_]
    have hx := h x
    rw [List.mem_cons, List.mem_cons] at hx
    constructor
    · intro q
      exact (hx.mp (.inr q)).resolve_left fun e => hn p1.1 (e ▸ q)
    · intro q
      exact (hx.mpr (.inr q)).resolve_left fun e => hn p2.1 (e ▸ q)
theorem sum_bd : ∀ {l : List Int}, (∀ q ∈ l, -12 ≤ q ∧ q ≤ 12) → -(12 * l.length : Int) ≤ l.sum ∧ l.sum ≤ 12 * l.length
  | [], _ => by simp
  | a :: l, h => by
    have h1 := h a List.mem_cons_self
    have h2 := sum_bd (l := l) fun q hq => h q (List.mem_cons_of_mem _ hq)
    simp only [List.sum_cons, List.length_cons]
    omega
structure PsOk (ps : List (Int × Nat)) : Prop where
  l4 : ps.length ≤ 4
  c12 : ∀ q ∈ ps, -12 ≤ q.1 ∧ q.1 ≤ 12
  x3 : ∀ q ∈ ps, q.2 < 3
theorem PsOk.tot {ps : List (Int × Nat)} (h : PsOk ps) (x : Nat) : -48 ≤ tot ps x ∧ tot ps x ≤ 48 := by
  unfold Mine.tot
  have h1 := sum_bd (l := (ps.filter fun r => r.2 == x).map (·.1)) fun q hq => by
    obtain ⟨r, hr, rfl⟩ := List.mem_map.mp hq
    exact h.c12 r (List.mem_filter.mp hr).1
  have h2 : ((ps.filter fun r => r.2 == x).map (·.1)).length ≤ 4 := by
    rw [List.length_map]
    exact Nat.le_trans (List.length_filter_le _ _) h.l4
  omega
theorem PsOk.lt3 {ps : List (Int × Nat)} (h : PsOk ps) {x : Nat} (hx : Mine.tot ps x ≠ 0) : x < 3 := by
  apply Classical.byContradiction
  intro hn
  apply hx
  unfold Mine.tot
  rw [List.filter_eq_nil_iff.mpr]
  · rfl
  · intro r hr
    have := h.x3 r hr
    simp; omega
theorem RowsOf.c {ps rows : List (Int × Nat)} (h : PsOk ps) (hr : RowsOf ps rows) : RowsC rows := by
  have hat : ∀ r ∈ rows, r.2 < 3 ∧ r.1 ≠ 0 ∧ -48 ≤ r.1 ∧ r.1 ≤ 48 := fun r q => by
    obtain ⟨h1, h2⟩ := (hr.mem r).mp q
    have h3 := h.tot r.2
    exact ⟨h.lt3 (by rw [← h1]; exact h2), h2, by omega, by omega⟩
  refine ⟨hr.nd, ?_, hat⟩
  have := nd_le (l₂ := [0, 1, 2]) hr.nd fun x hx => by
    obtain ⟨r, q, rfl⟩ := List.mem_map.mp hx
    have := (hat r q).1
    simp; omega
  simpa using this
theorem RowsOf.gcd {ps rows rows' : List (Int × Nat)} (hr : RowsOf ps rows) (hr' : RowsOf ps rows') : gcdL rows' = gcdL rows := gcdL_mem fun r => (hr'.mem r).trans (hr.mem r).symm
noncomputable def ipR (r : Int × Nat) : IP := (r.1, (r.2 : Int))
theorem ipR_inj {r q : Int × Nat} (h : ipR r = ipR q) : r = q := by
  obtain ⟨a, x⟩ := r; obtain ⟨b, y⟩ := q
  unfold ipR at h
  injection h with h1 h2
  simp only at h1 h2
  rw [h1, show x = y by omega]
theorem map_ipR {rows : List (Int × Nat)} : (rows.map ipR).map ipA = rows.map rowA := by rw [List.map_map]; rfl
theorem ipR_nd {rows : List (Int × Nat)} (h : (rows.map (·.2)).Nodup) : (rows.map ipR).Nodup := by
  unfold List.Nodup at h ⊢
  rw [List.pairwise_map] at h ⊢
  exact h.imp fun hne e => hne (by rw [ipR_inj e])
theorem gath_of {ps : List (Int × Nat)} (h : PsOk ps) : RowsOf ps (gath ps 3) := by
  unfold gath
  constructor
  · rw [List.map_map]
    have e : ((fun r : Int × Nat => r.2) ∘ fun x => (Mine.tot ps x, x)) = id := rfl
    rw [e, List.map_id]
    exact List.nodup_range.sublist List.filter_sublist
  · rintro ⟨v, x⟩
    rw [List.mem_map]
    constructor
    · rintro ⟨y, hy, e⟩
      obtain ⟨h1, h2⟩ := List.mem_filter.mp hy
      cases e
      exact ⟨rfl, by simpa using h2⟩
    · rintro ⟨h1, h2⟩
      simp only at h1 h2
      subst h1
      exact ⟨x, List.mem_filter.mpr ⟨List.mem_range.mpr (h.lt3 h2), by simpa using h2⟩, rfl⟩
theorem sorted_same {ps rows : List (Int × Nat)} {l₁ l₂ : List IP} (hr : RowsOf ps rows) {rows' : List (Int × Nat)} (hr' : RowsOf ps rows') (p1 : l₁.Perm (rows.map ipR)) (s1 : l₁.Pairwise (fun x y => lexB x y = true)) (p2 : l₂.Perm (rows'.map ipR)) (s2 : l₂.Pairwise (fun x y => lexB x y = true)) : l₁ = l₂ :=
  lex_uniq s1 s2 fun x => by
    rw [p1.mem_iff, p2.mem_iff, List.mem_map, List.mem_map]
    exact ⟨fun ⟨r, h, e⟩ => ⟨r, (hr'.mem r).mpr ((hr.mem r).mp h), e⟩, fun ⟨r, h, e⟩ => ⟨r, (hr.mem r).mpr ((hr'.mem r).mp h), e⟩⟩
theorem ip_dat {l : List IP} : ∀ a ∈ l.map ipA, datD 1 a := by
  intro a ha
  obtain ⟨q, _, rfl⟩ := List.mem_map.mp ha
  intro b hb
  simp at hb
  rcases hb with rfl | rfl <;> trivial
end
section
open PySem PySem.Spec PySem.Calls PyProof.Rows PySem.W PySem.SeqAt
noncomputable def menu : List Int := [2, -3, 4, 6, -6, 9, 10, -4, 12, 3, -9, 8]
theorem menu_at {u : Int} (h0 : 0 ≤ u) (h1 : u < 12) : ∃ q : Int, (menu.map AV.int)[u.toNat]? = some (.int q) ∧ -12 ≤ q ∧ q ≤ 12 := by
  have hb : ∀ q ∈ menu, -12 ≤ q ∧ q ≤ 12 := by decide
  have hl : u.toNat < menu.length := by show u.toNat < 12; omega
  exact ⟨menu[u.toNat], by rw [List.getElem?_map, List.getElem?_eq_getElem hl]; rfl, hb _ (List.getElem_mem hl)⟩
theorem zip_ps {qs : List Int} {ys : List Nat} (hq : ∀ q ∈ qs, -12 ≤ q ∧ q ≤ 12) (hy : ∀ x ∈ ys, x < 3) (h4 : qs.length ≤ 4) (hl : qs.length = ys.length) :
    ∃ ps : List (Int × Nat), PsOk ps ∧ qs.map AV.int = ps.map (fun r => AV.int r.1) ∧ ys.map (fun x : Nat => AV.int x) = ps.map (fun r => AV.int r.2) := by
  refine ⟨qs.zip ys, ⟨?_, ?_, ?_⟩, ?_, ?_⟩
  · rw [List.length_zip]; omega
  · rintro ⟨a, b⟩ h; exact hq _ (List.of_mem_zip h).1
  · rintro ⟨a, b⟩ h; exact hy _ (List.of_mem_zip h).2
  · have e := List.map_fst_zip (l₁ := qs) (l₂ := ys) (by omega)
    show _ = List.map (AV.int ∘ Prod.fst) (qs.zip ys)
    rw [← List.map_map, e]
  · have e := List.map_snd_zip (l₁ := qs) (l₂ := ys) (by omega)
    show _ = List.map ((fun x : Nat => AV.int x) ∘ Prod.snd) (qs.zip ys)
    rw [← List.map_map, e]
noncomputable def cellF (x : Int) : Int := (if x < 0 then -x else x).fmod 1000003
section
variable {p : Program} {w : World} {h₀ : Heap} {mg mb : Str → Option Value} {n : Nat} {P : AV → List Cell → Prop} {G μ : List Cell}
theorem old_list {g : Gd} {H ρ : List Addr} {s : Shared} {a : Addr} {vs : Array Value} (B : Base g H μ ρ s) (h : g.h₀.IsList a vs) : s.heap.IsList a vs :=
  let ⟨o, ho, hc, k, hd⟩ := h; ⟨o, (B.old _ _ ho).1, hc, k, hd⟩
theorem Call.lenR {g : Gd} {a : Addr} {l : List AV} {vs : List Value} (hL : g.h₀.IsList a vs.toArray) (hR : ∀ V ρ, RVs V ρ l vs) (hz : (l.length : Int) < 2 ^ 63) (p : P (.int l.length) μ) : Call g n (.builtin "len") [.raw (.ref a)] μ P := by
  intro A H ρ s us E hA B r
  cases r with
  | cons h1 r =>
  cases r
  cases h1
  have e := (hR (Vis H ρ s.heap) ρ).length
  refine call_len_list (old_list B hL) (by simpa [e] using hz) ?_
  simp only [List.size_toArray, e]
  exact .here p B (fun _ _ e => e) rfl rfl (.int _ _)
theorem SubV.uptoR {g : Gd} {value slice : Expr} {a : Addr} {l : List AV} {vs : List Value} {k : Nat} (hL : g.h₀.IsList a vs.toArray) (hR : ∀ V ρ, RVs V ρ l vs) (hz : l.length ≤ sizeLine) (p : P (.lst (l.take k)) μ) : SubV g n value slice (.raw (.ref a)) (.slc none (some k) none) μ P := by
  intro A H ρ s va vb E hA B ra rb
  cases ra
  cases rb with
  | @slc _ _ _ b vl vu vt ho pl pu pt =>
  have e := (hR (Vis H ρ s.heap) ρ).length
  have hLs := old_list B hL
  refine subTail (T := "list") (let ⟨o, h1, h2, _⟩ := hLs; ⟨o, h1, h2⟩) slot_list_getitem.lookup (wpAny_getItem_list_slice (hsz := by simpa [e] using hz) hLs ⟨_, ho.1, rfl, rfl⟩ pl pu pt (by simp) ?_)
  have hk := push_keep s.heap { cls := .type "list", data := .seq (slicePick vs.toArray none (some (k : Int)) none) }
  have X : Ext [] ρ ρ s { s with heap := s.heap.push { cls := .type "list", data := .seq (slicePick vs.toArray none (some (k : Int)) none) } } := Ext.keeps hk rfl rfl
  exact ⟨_, μ, ρ, p, B.keeps hk, X, .lst ⟨Heap.get?_push_size _ rfl, B.freshH, B.freshρ⟩ (by rw [slicePick_upto']; simpa using (hR _ _).take k)⟩
theorem c_law (hm : MainOk p) {a : Addr} {vs : List Value} {xs : List Int} (hL : h₀.IsList a vs.toArray) (hR : ∀ V ρ, RVs V ρ (xs.map .int) vs) (hz : xs.length ≤ 1000) (hp : ∀ μ', P (.bool true) μ') : Call (gd p w h₀ mg mb) (n + 9) (.ref 408) [.raw (.ref a)] [] P := by
  walk_at "mk"
  refine Call.fn ["script"] (by walk_at "ki") (by walk_at "ki") (by intro vs h; match vs, h with | [_], _ => rfl) rfl (by decide) (by kernel_rfl) (by decide +kernel) ?_
  walk_at "m"
  refine Ev.dictS2 ?_
  walk_at "m"
  refine Ev.comp [] (by kernel_rfl) trivial ?_ (by intros; rfl)
  walk_at "m"
  refine SubV.uptoR (k := 40) hL hR (by rw [List.length_map, sizeLine]; omega) ?_
  walk_at "m"
  rw [← List.map_take]
  have h40 : (xs.take 40).length ≤ 40 := by rw [List.length_take]; omega
  refine ⟨by rw [List.length_map, sizeLine]; omega, fun i l μ' => l = ((xs.take 40).take i).map (fun x => AV.int (cellF x)) ∧ μ' = [], ⟨rfl, rfl⟩, fun _ _ _ _ => trivial, ?_, ?_⟩
  · rintro i a l μ' hi ⟨rfl, rfl⟩
    obtain ⟨x, hx, hxi, rfl⟩ := map_at hi
    walk_at "m"
    refine ⟨trivial, ?_⟩
    walk_at "m"
    refine BinV.mod (by decide) ?_
    exact ⟨(take1 hxi).symm, rfl⟩
  rintro l μ' ⟨rfl, rfl⟩
  rw [List.length_map, List.take_length]
  walk_at "m"
  refine Ev.list ?_
  walk_at "m"
  refine Call.lenR hL hR (by rw [List.length_map]; omega) ?_
  rw [List.length_map]
  walk_at "m"
  refine BinV.mulLst (.fro _) (by split <;> decide) (by split <;> decide) (by split <;> decide) ?_
  refine BinV.addLst (.fro _) (.fro _) ?_ ?_
  · rw [List.length_map, sizeLine]
    split <;> simp <;> omega
  obtain ⟨cs, h0, h41, hcs⟩ : ∃ cs : List Int, 0 < cs.length ∧ cs.length ≤ 41 ∧ (xs.take 40).map (fun x => AV.int (cellF x)) ++ (List.replicate (if decide ((xs.length : Int) = 0) = true then (1 : Int) else 0).toNat [AV.int 5]).flatten = cs.map .int := by
    by_cases hx : xs.length = 0
    · have hx' : (xs.length : Int) = 0 := by omega
      have := List.eq_nil_of_length_eq_zero hx
      subst this
      exact ⟨[5], by decide, by decide, by simp⟩
    · have hx' : ¬ (xs.length : Int) = 0 := by omega
      refine ⟨(xs.take 40).map cellF, ?_, ?_, ?_⟩
      · rw [List.length_map, List.length_take]; omega
      · rw [List.length_map]; omega
      · rw [decide_eq_false hx', List.map_map]
        simp
        rfl
  rw [hcs]
  walk_at "m"
  refine ⟨"cells", "spot", _, _, rfl, by decide, ?_⟩
  walk_at "m"
  refine Ex.forB [("feed", .loc 0)] ⟨rfl, trivial⟩ ?_ (by intros; rfl)
  walk_at "m"
  refine CallI.range (by decide) (by decide) ?_
  refine ⟨fun i μ' => ∃ sp G, sp ≤ 10 * i ∧ μ' = fd cs sp :: G, ⟨0, [], Nat.le_refl _, rfl⟩, fun _ _ _ => trivial, ?_, ?_⟩
  · rintro i a μ' hi ⟨sp, G, hsp, rfl⟩
    have hi3 : i < 3 := by
      rcases Nat.lt_or_ge i 3 with q | q
      · exact q
      · rw [List.getElem?_eq_none (by rw [intsA_length]; exact q)] at hi; cases hi
    clear hi
    walk_at "m"
    refine c_draw h0 (by omega) (by omega) (by decide) fun v hv0 hv1 => ?_
    obtain ⟨N, hN, hN1, hN4⟩ : ∃ N : Nat, 1 + v = (N : Int) ∧ 1 ≤ N ∧ N ≤ 4 := ⟨(1 + v).toNat, by omega, by omega, by omega⟩
    walk_at "m"
    rw [hN]
    refine Ev.comp [("feed", .loc 0)] (by kernel_rfl) ⟨rfl, trivial⟩ ?_ (by intros; rfl)
    walk_at "m"
    refine CallI.range (by omega) (by omega) ?_
    rw [Int.toNat_natCast]
    refine ⟨by rw [intsA_length, sizeLine]; omega, fun i l μ' => ∃ qs : List Int, l = qs.map .int ∧ qs.length = i ∧ (∀ q ∈ qs, -12 ≤ q ∧ q ≤ 12) ∧ i ≤ N ∧ μ' = fd cs (sp + 1 + i) :: G, ⟨[], rfl, rfl, (fun _ q => nomatch q), Nat.zero_le _, rfl⟩, fun _ _ _ _ => trivial, ?_, ?_⟩
    · rintro k b l μ' hk ⟨qs, rfl, hq, hqs, hkN, rfl⟩
      have hk4 : k < N := by
        rcases Nat.lt_or_ge k N with q | q
        · exact q
        · rw [List.getElem?_eq_none (by rw [intsA_length]; exact q)] at hk; cases hk
      walk_at "m"
      refine ⟨⟨rfl, trivial⟩, ?_⟩
      walk_at "m"
      refine Ev.nameT (l := menu.map .int) (by kernel_rfl) (by walk_at "ki") (by walk_at "ki") (by intro V ρ; exact .cons (.int _ _) (.cons (.int _ _) (.cons (.int _ _) (.cons (.int _ _) (.cons (.int _ _) (.cons (.int _ _) (.cons (.int _ _) (.cons (.int _ _) (.cons (.int _ _) (.cons (.int _ _) (.cons (.int _ _) (.cons (.int _ _) .nil)))))))))))) ?_
      walk_at "m"
      refine c_draw h0 (by omega) (by omega) (by decide) fun u hu0 hu1 => ?_
      obtain ⟨q, hq1, hq2⟩ := menu_at hu0 hu1
      refine SubV.tup (by omega) (by omega) (seqIndex_at hu0 (by show u < ((12 : Nat) : Int); omega)) hq1 ?_
      refine ⟨qs ++ [q], by rw [List.map_append]; rfl, by rw [List.length_append, hq]; rfl, ?_, hk4, rfl⟩
      intro q' hq'
      rcases List.mem_append.mp hq' with h | h
      · exact hqs q' h
      · simp at h; subst h; exact hq2
    rintro l μ' ⟨qs, rfl, hql, hqs, _, rfl⟩
    rw [intsA_length] at hql ⊢
    walk_at "m"
    refine Call.tupL (.fro _) (by rw [List.length_map, sizeLine]; omega) ?_
    walk_at "m"
    refine Ev.comp [("feed", .loc 0)] (by kernel_rfl) ⟨rfl, trivial⟩ ?_ (by intros; rfl)
    walk_at "m"
    refine CallI.range (by omega) (by omega) ?_
    rw [Int.toNat_natCast]
    refine ⟨by rw [intsA_length, sizeLine]; omega, fun i l μ' => ∃ xs : List Nat, l = xs.map (fun x : Nat => AV.int x) ∧ xs.length = i ∧ (∀ x ∈ xs, x < 3) ∧ i ≤ N ∧ μ' = fd cs (sp + 1 + N + i) :: G, ⟨[], rfl, rfl, (fun _ q => nomatch q), Nat.zero_le _, rfl⟩, fun _ _ _ _ => trivial, ?_, ?_⟩
    · rintro k b l μ' hk ⟨ys, rfl, hy, hys, hkN, rfl⟩
      have hk4 : k < N := by
        rcases Nat.lt_or_ge k N with q | q
        · exact q
        · rw [List.getElem?_eq_none (by rw [intsA_length]; exact q)] at hk; cases hk
      walk_at "m"
      refine ⟨⟨rfl, trivial⟩, ?_⟩
      walk_at "m"
      refine c_draw h0 (by omega) (by omega) (by decide) fun u hu0 hu1 => ?_
      obtain ⟨y, rfl⟩ := Int.eq_ofNat_of_zero_le hu0
      refine ⟨ys ++ [y], by rw [List.map_append]; rfl, by rw [List.length_append, hy]; rfl, ?_, hk4, rfl⟩
      intro q' hq'
      rcases List.mem_append.mp hq' with h | h
      · exact hys q' h
      · simp at h; subst h; omega
    rintro l μ' ⟨ys, rfl, hyl, hys, _, rfl⟩
    rw [intsA_length] at hyl ⊢
    walk_at "m"
    refine Call.tupL (.fro _) (by rw [List.length_map, sizeLine]; omega) ?_
    walk_at "m"
    refine c_draw h0 (by omega) (by omega) (by decide) fun u hu0 hu1 => ?_
    obtain ⟨ps, hps, hp1, hp2⟩ : ∃ ps : List (Int × Nat), PsOk ps ∧ qs.map AV.int = ps.map (fun r => AV.int r.1) ∧ ys.map (fun x : Nat => AV.int x) = ps.map (fun r => AV.int r.2) := zip_ps hqs hys (by omega) (by omega)
    rw [hp1, hp2]
    walk_at "m"
    have hz4 : ps.length ≤ 1000 := Nat.le_trans hps.l4 (by decide)
    refine c_gathered hz4 ?_
    walk_at "m"
    refine c_rows_of hz4 fun rows c' hr => ?_
    have hC := hr.c hps
    walk_at "m"
    have hgo := gath_of hps
    have hC2 := hgo.c hps
    have hat : (fd cs (sp + 1 + N + N + 1) :: G ++ [Cell.lst (List.map rowA (gath ps 3))] ++ [c'])[(fd cs (sp + 1 + N + N + 1) :: G).length]? = some (.lst ((gath ps 3).map rowA)) := by
      rw [List.append_assoc, List.getElem?_append_right (Nat.le_refl _), Nat.sub_self]; rfl
    rw [← map_ipR] at hat ⊢
    refine Call.sorted (.fro _) (by rw [List.length_map]; exact hC.l3) (ipR_nd hC.nd) fun l₁ p1 s1 => ?_
    walk_at "m"
    rw [map_ipR] at hat ⊢
    refine Call.sorted (l := (gath ps 3).map ipR) (.loc (by rw [map_ipR]; exact hat)) (by rw [List.length_map]; exact hC2.l3) (ipR_nd hC2.nd) fun l₂ p2 s2 => ?_
    refine CmpV.neLst 1 (by omega) (.fro _) (.fro _) ip_dat ip_dat fun q hq => ?_
    obtain rfl : q = false := hq.mpr (by rw [sorted_same hr hgo p1 s1 p2 s2])
    walk_at "m"
    refine c_div_right hC.b fun G2 => ?_
    walk_at "m"
    refine c_asked hm hC (fun rows' hr' => ⟨hr'.c hps, hr.gcd hr'⟩) (by omega) (by omega) hz4 hps.x3 fun G3 => ?_
    walk_at "m"
    exact ⟨⟨rfl, trivial⟩, sp + 1 + N + N + 1, _, by omega, by simp only [List.cons_append]; rfl⟩
  · rintro lm' μ' hlm ⟨sp, G, hsp, rfl⟩
    refine Exs.weaken (lm' := []) ?_ (fun _ _ h => nomatch h)
    walk_at "m"
    exact hp _
end
end
section
open PySem PySem.Spec PySem.Calls PyProof.Rows PySem.W PySem.SeqAt
theorem ints_rv {vs : List Value} {xs : List Int} (h : IntsAre vs xs) : ∀ V ρ, RVs V ρ (xs.map .int) vs := by
  intro V ρ
  induction h with
  | nil => exact .nil
  | cons => rename_i ih; exact .cons (.int _ _) ih
theorem mainOk : MainOk PySem.Challenge.rw_nz0021_01.row.prog := ⟨by kernel_rfl, by kernel_rfl⟩
theorem law_at {w : World} {s₁ : Shared} {mg mb : Str → Option Value} {q : Program} {loose : List Str} {mean mean' : ExcName → Option Value} {fa a : Addr} {vs : List Value} {xs : List Int} {c : ClaimW} {cl : Str → Option Addr} {args : List WData}
    (KX : (hd.heap_39 w.params).In s₁.heap) (T : Top q loose mean mg mb s₁.heap) (hmg : mg (Str.ofString "law") = some (.ref fa)) (hg : s₁.gens = #[]) (hL : s₁.heap.IsList a vs.toArray) (hI : IntsAre vs xs) (hz : xs.length ≤ 1000)
    (hr : ∀ cls, c.raises args cls = false) (hp : c.post args (.bool true) args = true) {E : Value → Shared → Prop} :
    wpAny (model PySem.Challenge.rw_nz0021_01.row.prog w) callerA (call (.ref fa) [.ref a]) (fun v s' => GoodWG c cl mean' args s₁ (.ok (.ret v)) s') E s₁ := by
  have ok : GdOk (gd PySem.Challenge.rw_nz0021_01.row.prog w s₁.heap mg mb) := ⟨KX, T.g, T.b, T.nolimit, T.builtins⟩
  have B : Base (gd PySem.Challenge.rw_nz0021_01.row.prog w s₁.heap mg mb) [] [] [] s₁ :=
    ⟨ok, fun b o h => ⟨h, (fun q => nomatch q), fun q => nomatch q⟩, rfl, List.nodup_nil, (fun _ q => nomatch q), (fun _ q => nomatch q), (fun _ q => nomatch q), fun _ _ _ q => nomatch q⟩
  have hfa : fa = 408 := by
    have hfill : PySem.Challenge.rw_nz0021_01 = PySem.Challenge.rw_nz0021_01 ∧ hd.heap_39 = hd.heap_39 := (by k_fill; exact ⟨rfl, rfl⟩)
    clear hfill
    have e0 : nsIn (hd.heap_39 w.params) mainGlobals (Str.ofString "law") = some (some (.ref 408)) := by k_is
    have e' : mg (Str.ofString "law") = some (.ref 408) := mg_of ok.K ok.gl e0
    rw [hmg] at e'
    injection e' with e'
    injection e'
  subst hfa
  have hA : OkA 9 callerA := ⟨rfl, by decide, by decide, ⟨_, rfl⟩⟩
  refine wpAny_mono (c_law (n := 0) mainOk hL (ints_rv hI) hz (P := fun a _ => a = .bool true) (fun _ => rfl) callerA [] [] s₁ [.ref a] E hA B (.cons (.raw _) .nil)) ?_ fun _ _ e => e
  rintro v s' ⟨b, μ', ρ', rfl, B', X, rv⟩
  cases rv
  refine ⟨.inl ⟨_, _, [], rfl, hr, ReadsW.bool true, hp, fun _ => ⟨List.nodup_nil, fun _ hm => (nomatch hm)⟩⟩, .of_keep fun b o h => (X.keep b o (fun q => nomatch q) (fun q => nomatch q) h).1, X.os, .of_eq (X.gens.trans hg)⟩
end
end Mine
open PySem PySem.Spec PySem.Calls PyProof.Rows PySem.W
set_option maxHeartbeats 4000000 in
theorem PySem.Challenge.cw_nz0021_01_holds : PySem.Challenge.rw_nz0021_01.Holds := by
  refine Mine.hd ?_
  intro w s₀ s₁ mg mb G Y fa o pm cd doc dV kV ho hd' hcd hD hmg hg args vals as hpre hlay hrd hwl hlo
  have KX := kIn_of Y
  rw [Mine.hd.dk_name] at hmg
  refine Ground.open G ?_
  intro T B D TE TW
  wrow_args hpre hlay hrd hwl hlo
  refine Mine.law_at KX T hmg hg (by assumption) (by assumption) (by omega) (fun _ => rfl) ?_
  first | rfl | wrow_post
