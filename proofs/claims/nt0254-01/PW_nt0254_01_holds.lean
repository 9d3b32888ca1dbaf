import PyProof.Rows.All
import Wide.All
import OpenK.AllK
import Wide.FinOn
import PySem.Challenge.RW_nt0254_01
open PySem PySem.W PyProof.Rows
set_option Elab.async false
set_option linter.all false
set_option maxRecDepth 100000
set_option maxHeartbeats 8000000
namespace Nt
abbrev hd.pw : Program := PySem.Challenge.pw_nt0254_01
noncomputable def hd.defAt (i : Nat) : Option (Arguments × List Stmt × Scope) := match PySem.Challenge.pw_nt0254_01.main.body[i]? with
  | some (.FunctionDef _ a b _ _ _ s _ _ _) => some (a, b, s)
  | _ => none
noncomputable def hd.methAt (i j : Nat) : Option (Arguments × List Stmt × Scope) := match PySem.Challenge.pw_nt0254_01.main.body[i]? with
  | some (.ClassDef _ _ _ l _ _ _ _ _ _ _) => (match l[j]? with
    | some (.FunctionDef _ a b _ _ _ s _ _ _) => some (a, b, s)
    | _ => none)
  | _ => none
noncomputable def hd.o2 : Params → Obj := fun P => ⟨.none, none, (.dict [⟨PyData.keyHash P (.ofString "type.__subclasses__.Exception.0"), .str (.ofString "type.__subclasses__.Exception.0") 221, (.int (38) 0)⟩, ⟨PyData.keyHash P (.ofString "type.__subclasses__.Exception.n"), .str (.ofString "type.__subclasses__.Exception.n") 222, (.int (1) 0)⟩].toArray 2), #[]⟩
noncomputable def hd.o3 : Params → Obj := fun P => ⟨(.type "dict"), none, (.dict [⟨PyData.keyHash P (.ofString "__name__"), .str (.ofString "__name__") 165, (.str (.ofString "law_nt0254_01") 506)⟩, ⟨PyData.keyHash P (.ofString "__doc__"), .str (.ofString "__doc__") 166, .none⟩, ⟨PyData.keyHash P (.ofString "__package__"), .str (.ofString "__package__") 167, .none⟩, ⟨PyData.keyHash P (.ofString "__loader__"), .str (.ofString "__loader__") 168, (.builtin "__main__.__loader__#opaque")⟩, ⟨PyData.keyHash P (.ofString "__spec__"), .str (.ofString "__spec__") 169, .none⟩, ⟨PyData.keyHash P (.ofString "__annotations__"), .str (.ofString "__annotations__") 170, (.ref 6)⟩, ⟨PyData.keyHash P (.ofString "__builtins__"), .str (.ofString "__builtins__") 171, (.ref 4)⟩, ⟨PyData.keyHash P (.ofString "__file__"), .str (.ofString "__file__") 173, (.str (.ofString "/claim/cut.py") 172)⟩, ⟨PyData.keyHash P (.ofString "__cached__"), .str (.ofString "__cached__") 174, .none⟩, ⟨PyData.keyHash P (.ofString "_wall"), .str (.ofString "_wall") 193, (.ref 21)⟩, ⟨PyData.keyHash P (.ofString "MachineFault"), .str (.ofString "MachineFault") 224, (.ref 38)⟩, ⟨PyData.keyHash P (.ofString "FIX"), .str (.ofString "FIX") 228, (.int (0) 227)⟩, ⟨PyData.keyHash P (.ofString "REF"), .str (.ofString "REF") 230, (.int (1) 229)⟩, ⟨PyData.keyHash P (.ofString "CHAR"), .str (.ofString "CHAR") 232, (.int (2) 231)⟩, ⟨PyData.keyHash P (.ofString "SYMBOL"), .str (.ofString "SYMBOL") 234, (.int (3) 233)⟩, ⟨PyData.keyHash P (.ofString "CONSTANT"), .str (.ofString "CONSTANT") 236, (.int (4) 235)⟩, ⟨PyData.keyHash P (.ofString "HEADER"), .str (.ofString "HEADER") 238, (.int (5) 237)⟩, ⟨PyData.keyHash P (.ofString "FORWARD"), .str (.ofString "FORWARD") 240, (.int (6) 239)⟩, ⟨PyData.keyHash P (.ofString "TAGS"), .str (.ofString "TAGS") 242, (.int (8) 241)⟩, ⟨PyData.keyHash P (.ofString "EMPTY_LIST"), .str (.ofString "EMPTY_LIST") 246, (.int (20) 245)⟩, ⟨PyData.keyHash P (.ofString "KINDS"), .str (.ofString "KINDS") 248, (.int (16) 247)⟩, ⟨PyData.keyHash P (.ofString "KIND_SIZES"), .str (.ofString "KIND_SIZES") 260, (.ref 42)⟩, ⟨PyData.keyHash P (.ofString "payload_of"), .str (.ofString "payload_of") 267, (.ref 49)⟩, ⟨PyData.keyHash P (.ofString "fix"), .str (.ofString "fix") 274, (.ref 56)⟩, ⟨PyData.keyHash P (.ofString "ref"), .str (.ofString "ref") 281, (.ref 63)⟩, ⟨PyData.keyHash P (.ofString "char_word"), .str (.ofString "char_word") 288, (.ref 70)⟩, ⟨PyData.keyHash P (.ofString "symbol_word"), .str (.ofString "symbol_word") 295, (.ref 77)⟩, ⟨PyData.keyHash P (.ofString "header_word"), .str (.ofString "header_word") 303, (.ref 84)⟩, ⟨PyData.keyHash P (.ofString "forward_word"), .str (.ofString "forward_word") 310, (.ref 91)⟩, ⟨PyData.keyHash P (.ofString "is_ref"), .str (.ofString "is_ref") 317, (.ref 98)⟩, ⟨PyData.keyHash P (.ofString "is_header"), .str (.ofString "is_header") 324, (.ref 105)⟩, ⟨PyData.keyHash P (.ofString "header_kind"), .str (.ofString "header_kind") 331, (.ref 112)⟩, ⟨PyData.keyHash P (.ofString "header_length"), .str (.ofString "header_length") 338, (.ref 119)⟩, ⟨PyData.keyHash P (.ofString "is_value_word"), .str (.ofString "is_value_word") 346, (.ref 126)⟩, ⟨PyData.keyHash P (.ofString "Heap"), .str (.ofString "Heap") 480, (.ref 227)⟩, ⟨PyData.keyHash P (.ofString "wrong_block"), .str (.ofString "wrong_block") 494, (.ref 238)⟩, ⟨PyData.keyHash P (.ofString "heap_error"), .str (.ofString "heap_error") 505, (.ref 245)⟩, ⟨PyData.keyHash P (.ofString "_law_draw"), .str (.ofString "_law_draw") 515, (.ref 252)⟩, ⟨PyData.keyHash P (.ofString "_law_word"), .str (.ofString "_law_word") 525, (.ref 259)⟩, ⟨PyData.keyHash P (.ofString "_law_blocks"), .str (.ofString "_law_blocks") 531, (.ref 264)⟩, ⟨PyData.keyHash P (.ofString "_law_heap"), .str (.ofString "_law_heap") 541, (.ref 271)⟩, ⟨PyData.keyHash P (.ofString "_law_spoilt"), .str (.ofString "_law_spoilt") 555, (.ref 278)⟩, ⟨PyData.keyHash P (.ofString "law"), .str (.ofString "law") 561, (.ref 283)⟩].toArray 43), #[]⟩
noncomputable def hd.o11 : Params → Obj := fun P => ⟨(.type "tuple"), none, (.seq #[] 0), #[]⟩
noncomputable def hd.o12 : Params → Obj := fun P => ⟨.none, none, (.fields ((.int (1) 0) :: (.int (0) 0) :: (.ref 20) :: (.int (5) 0) :: (.int (0) 0) :: (.ref 27) :: (.int (21) 0) :: (.int (0) 0) :: (.ref 48) :: (.int (23) 0) :: (.int (0) 0) :: (.ref 55) :: (.int (25) 0) :: (.int (0) 0) :: (.ref 62) :: (.int (27) 0) :: (.int (0) 0) :: (.ref 69) :: (.int (29) 0) :: (.int (0) 0) :: (.ref 76) :: (.int (31) 0) :: (.int (0) 0) :: (.ref 83) :: (.int (33) 0) :: (.int (0) 0) :: (.ref 90) :: (.int (35) 0) :: (.int (0) 0) :: (.ref 97) :: (.int (37) 0) :: (.int (0) 0) :: (.ref 104) :: (.int (39) 0) :: (.int (0) 0) :: (.ref 111) :: (.int (41) 0) :: (.int (0) 0) :: (.ref 118) :: (.int (43) 0) :: (.int (0) 0) :: (.ref 125) :: (.int (47) 0) :: (.int (0) 0) :: (.ref 132) :: (.int (95) 0) :: (.int (0) 0) :: (.ref 237) :: (.int (111) 0) :: (.int (0) 0) :: (.ref 244) :: (.int (125) 0) :: (.int (0) 0) :: (.ref 251) :: (.int (130) 0) :: (.int (0) 0) :: (.ref 258) :: (.int (136) 0) :: (.int (0) 0) :: (.ref 263) :: (.int (143) 0) :: (.int (0) 0) :: (.ref 270) :: (.int (148) 0) :: (.int (0) 0) :: (.ref 277) :: (.int (169) 0) :: (.int (0) 0) :: (.ref 282) :: []).toArray), #[]⟩
noncomputable def hd.o13 : Params → Obj := fun P => ⟨(.type "code"), none, (.fields #[(.str (.ofString "<module>") 182), (.str (.ofString "<module>") 183), (.str (.ofString "/claim/cut.py") 184), (.int (1) 0), (.int (0) 0), (.int (0) 0), (.int (0) 0), (.int (0) 0), (.ref 11), (.bool false), (.int (181) 0), (.ref 12), .none, .none, .none, .none, (.int (185) 0), (.int (1) 0), (.str (.ofString "/claim/cut.py") 186)]), #[]⟩
noncomputable def hd.o14 : Params → Obj := fun P => ⟨(.type "frame"), none, .plain, #[some (.ref 13), some (.ref 3), some (.ref 3), none, some (.str (.ofString "__main__") 164), none, some (.ref 0)]⟩
noncomputable def hd.o15 : Params → Obj := fun P => ⟨(.type "tuple"), none, (.seq #[] 0), #[]⟩
noncomputable def hd.o16 : Params → Obj := fun P => ⟨.none, none, (.fields #[]), #[]⟩
noncomputable def hd.o17 : Params → Obj := fun P => ⟨(.type "tuple"), none, (.seq #[(.str (.ofString "k") 190)] 0), #[]⟩
noncomputable def hd.o18 : Params → Obj := fun P => ⟨(.type "tuple"), none, (.seq #[] 0), #[]⟩
noncomputable def hd.o19 : Params → Obj := (fun {a0 : Arguments} {b0 : List Stmt} {s0 : Scope} (_ : hd.defAt 0 = some (a0, b0, s0)) (P : Params) => (⟨.none, none, (.func ⟨(.ofString "_wall"), (.ofString "_wall"), a0, .stmts b0, s0, 0, [], .none, .none, .none, .none, none, .none, .none, 0⟩), #[]⟩ : Obj)) rfl
noncomputable def hd.o20 : Params → Obj := fun P => ⟨(.type "code"), none, (.fields #[(.str (.ofString "_wall") 187), (.str (.ofString "_wall") 188), (.str (.ofString "/claim/cut.py") 189), (.int (1) 0), (.int (1) 0), (.int (0) 0), (.int (0) 0), (.int (3) 0), (.ref 15), (.bool true), (.int (181) 0), (.ref 16), .none, (.ref 17), (.ref 18), (.ref 19), (.int (191) 0), (.int (1) 0), (.str (.ofString "/claim/cut.py") 192)]), #[]⟩
noncomputable def hd.o21 : Params → Obj := (fun {a0 : Arguments} {b0 : List Stmt} {s0 : Scope} (_ : hd.defAt 0 = some (a0, b0, s0)) (P : Params) => (⟨(.type "function"), none, (.func ⟨(.ofString "_wall"), (.ofString "_wall"), a0, .stmts b0, s0, 3, [], .none, .none, .none, (.str (.ofString "__main__") 164), none, (.ref 20), .none, 0⟩), #[]⟩ : Obj)) rfl
noncomputable def hd.o22 : Params → Obj := fun P => ⟨(.type "tuple"), none, (.seq #[(.type "Exception")] 0), #[]⟩
noncomputable def hd.o23 : Params → Obj := fun P => ⟨(.type "builtin_function_or_method"), none, (.fields #[(.builtin "type.__prepare__"), (.type "type")]), #[]⟩
noncomputable def hd.o24 : Params → Obj := fun P => ⟨(.type "dict"), none, (.dict [⟨PyData.keyHash P (.ofString "__module__"), .str (.ofString "__module__") 203, (.str (.ofString "scheme.errors") 194)⟩, ⟨PyData.keyHash P (.ofString "__qualname__"), .str (.ofString "__qualname__") 205, (.str (.ofString "MachineFault") 204)⟩, ⟨PyData.keyHash P (.ofString "__firstlineno__"), .str (.ofString "__firstlineno__") 207, (.int (5) 206)⟩, ⟨PyData.keyHash P (.ofString "__init__"), .str (.ofString "__init__") 215, (.ref 35)⟩, ⟨PyData.keyHash P (.ofString "__static_attributes__"), .str (.ofString "__static_attributes__") 217, (.ref 36)⟩].toArray 5), #[]⟩
noncomputable def hd.o25 : Params → Obj := fun P => ⟨(.type "tuple"), none, (.seq #[] 0), #[]⟩
noncomputable def hd.o26 : Params → Obj := fun P => ⟨.none, none, (.fields #[(.int (7) 0), (.int (4) 0), (.ref 34)]), #[]⟩
noncomputable def hd.o27 : Params → Obj := fun P => ⟨(.type "code"), none, (.fields #[(.str (.ofString "MachineFault") 198), (.str (.ofString "MachineFault") 199), (.str (.ofString "/claim/cut.py") 200), (.int (5) 0), (.int (0) 0), (.int (0) 0), (.int (0) 0), (.int (0) 0), (.ref 25), (.bool false), (.int (181) 0), (.ref 26), .none, .none, .none, .none, (.int (201) 0), (.int (5) 0), (.str (.ofString "/claim/cut.py") 202)]), #[]⟩
noncomputable def hd.o28 : Params → Obj := fun P => ⟨(.type "frame"), none, .plain, #[some (.ref 27), some (.ref 3), some (.ref 24), none, some (.str (.ofString "scheme.errors") 194), none, some (.ref 0)]⟩
noncomputable def hd.o29 : Params → Obj := fun P => ⟨(.type "tuple"), none, (.seq #[] 0), #[]⟩
noncomputable def hd.o30 : Params → Obj := fun P => ⟨.none, none, (.fields #[]), #[]⟩
noncomputable def hd.o31 : Params → Obj := fun P => ⟨(.type "tuple"), none, (.seq #[(.str (.ofString "self") 211), (.str (.ofString "word") 212)] 0), #[]⟩
noncomputable def hd.o32 : Params → Obj := fun P => ⟨(.type "tuple"), none, (.seq #[] 0), #[]⟩
noncomputable def hd.o33 : Params → Obj := (fun {a0 : Arguments} {b0 : List Stmt} {s0 : Scope} (_ : hd.methAt 2 0 = some (a0, b0, s0)) (P : Params) => (⟨.none, none, (.func ⟨(.ofString "__init__"), (.ofString "MachineFault.__init__"), a0, .stmts b0, s0, 0, [], .none, .none, .none, .none, none, .none, .none, 0⟩), #[]⟩ : Obj)) rfl
noncomputable def hd.o34 : Params → Obj := fun P => ⟨(.type "code"), none, (.fields #[(.str (.ofString "__init__") 208), (.str (.ofString "MachineFault.__init__") 209), (.str (.ofString "/claim/cut.py") 210), (.int (7) 0), (.int (2) 0), (.int (0) 0), (.int (0) 0), (.int (3) 0), (.ref 29), (.bool true), (.int (181) 0), (.ref 30), .none, (.ref 31), (.ref 32), (.ref 33), (.int (213) 0), (.int (7) 0), (.str (.ofString "/claim/cut.py") 214)]), #[]⟩
noncomputable def hd.o35 : Params → Obj := (fun {a0 : Arguments} {b0 : List Stmt} {s0 : Scope} (_ : hd.methAt 2 0 = some (a0, b0, s0)) (P : Params) => (⟨(.type "function"), none, (.func ⟨(.ofString "__init__"), (.ofString "MachineFault.__init__"), a0, .stmts b0, s0, 3, [], .none, .none, .none, (.str (.ofString "scheme.errors") 194), none, (.ref 34), .none, 0⟩), #[]⟩ : Obj)) rfl
noncomputable def hd.o36 : Params → Obj := fun P => ⟨(.type "tuple"), none, (.seq #[(.str (.ofString "word") 216)] 0), #[]⟩
noncomputable def hd.o37 : Params → Obj := fun P => ⟨(.type "dict"), none, (.dict [⟨PyData.keyHash P (.ofString "__module__"), .str (.ofString "__module__") 203, (.str (.ofString "scheme.errors") 194)⟩, ⟨PyData.keyHash P (.ofString "__firstlineno__"), .str (.ofString "__firstlineno__") 207, (.int (5) 206)⟩, ⟨PyData.keyHash P (.ofString "__init__"), .str (.ofString "__init__") 215, (.ref 35)⟩, ⟨PyData.keyHash P (.ofString "__static_attributes__"), .str (.ofString "__static_attributes__") 217, (.ref 36)⟩, ⟨PyData.keyHash P (.ofString "__weakref__"), .str (.ofString "__weakref__") 219, (.ref 39)⟩, ⟨PyData.keyHash P (.ofString "__doc__"), .str (.ofString "__doc__") 220, .none⟩].toArray 3), #[]⟩
noncomputable def hd.o38 : Params → Obj := fun P => ⟨(.type "type"), none, (.cls ⟨(.ofString "MachineFault"), [(.type "Exception")], [(.ref 38), (.type "Exception"), (.type "BaseException"), (.type "object")], 37, (.ofString "MachineFault"), true, [], [], false, none, false⟩), #[some (.ref 22), none, some (.str (.ofString "MachineFault") 196), some (.str (.ofString "MachineFault") 204), some (.builtin "Exception.__new__"), some (.bool true)]⟩
noncomputable def hd.o39 : Params → Obj := fun P => ⟨(.type "getset_descriptor"), none, (.fields #[(.str (.ofString "__weakref__") 218), (.ref 38), (.builtin "ExceptionGroup.__weakref__"), .none]), #[]⟩
noncomputable def hd.o40 : Params → Obj := fun P => ⟨(.type "super"), none, (.fields #[(.ref 38), (.ref 38), (.ref 38)]), #[]⟩
noncomputable def hd.o41 : Params → Obj := fun P => ⟨(.type "builtin_function_or_method"), none, (.fields #[(.builtin "object.__init_subclass__"), (.ref 38)]), #[]⟩
noncomputable def hd.o42 : Params → Obj := fun P => ⟨(.type "tuple"), none, (.seq #[(.int (2) 249), (.int (-1) 251), (.int (-1) 253), (.int (-1) 255), (.int (1) 256), (.int (2) 257), (.int (2) 258), (.int (2) 259)] 0), #[]⟩
noncomputable def hd.o43 : Params → Obj := fun P => ⟨(.type "tuple"), none, (.seq #[] 0), #[]⟩
noncomputable def hd.o44 : Params → Obj := fun P => ⟨.none, none, (.fields #[]), #[]⟩
noncomputable def hd.o45 : Params → Obj := fun P => ⟨(.type "tuple"), none, (.seq #[(.str (.ofString "word") 264)] 0), #[]⟩
noncomputable def hd.o46 : Params → Obj := fun P => ⟨(.type "tuple"), none, (.seq #[] 0), #[]⟩
noncomputable def hd.o47 : Params → Obj := (fun {a0 : Arguments} {b0 : List Stmt} {s0 : Scope} (_ : hd.defAt 15 = some (a0, b0, s0)) (P : Params) => (⟨.none, none, (.func ⟨(.ofString "payload_of"), (.ofString "payload_of"), a0, .stmts b0, s0, 0, [], .none, .none, .none, .none, none, .none, .none, 0⟩), #[]⟩ : Obj)) rfl
noncomputable def hd.o48 : Params → Obj := fun P => ⟨(.type "code"), none, (.fields #[(.str (.ofString "payload_of") 261), (.str (.ofString "payload_of") 262), (.str (.ofString "/claim/cut.py") 263), (.int (21) 0), (.int (1) 0), (.int (0) 0), (.int (0) 0), (.int (3) 0), (.ref 43), (.bool true), (.int (181) 0), (.ref 44), .none, (.ref 45), (.ref 46), (.ref 47), (.int (265) 0), (.int (21) 0), (.str (.ofString "/claim/cut.py") 266)]), #[]⟩
noncomputable def hd.o49 : Params → Obj := (fun {a0 : Arguments} {b0 : List Stmt} {s0 : Scope} (_ : hd.defAt 15 = some (a0, b0, s0)) (P : Params) => (⟨(.type "function"), none, (.func ⟨(.ofString "payload_of"), (.ofString "payload_of"), a0, .stmts b0, s0, 3, [], .none, .none, .none, (.str (.ofString "scheme.words") 225), none, (.ref 48), .none, 0⟩), #[]⟩ : Obj)) rfl
noncomputable def hd.o50 : Params → Obj := fun P => ⟨(.type "tuple"), none, (.seq #[] 0), #[]⟩
noncomputable def hd.o51 : Params → Obj := fun P => ⟨.none, none, (.fields #[]), #[]⟩
noncomputable def hd.o52 : Params → Obj := fun P => ⟨(.type "tuple"), none, (.seq #[(.str (.ofString "number") 271)] 0), #[]⟩
noncomputable def hd.o53 : Params → Obj := fun P => ⟨(.type "tuple"), none, (.seq #[] 0), #[]⟩
noncomputable def hd.o54 : Params → Obj := (fun {a0 : Arguments} {b0 : List Stmt} {s0 : Scope} (_ : hd.defAt 16 = some (a0, b0, s0)) (P : Params) => (⟨.none, none, (.func ⟨(.ofString "fix"), (.ofString "fix"), a0, .stmts b0, s0, 0, [], .none, .none, .none, .none, none, .none, .none, 0⟩), #[]⟩ : Obj)) rfl
noncomputable def hd.o55 : Params → Obj := fun P => ⟨(.type "code"), none, (.fields #[(.str (.ofString "fix") 268), (.str (.ofString "fix") 269), (.str (.ofString "/claim/cut.py") 270), (.int (23) 0), (.int (1) 0), (.int (0) 0), (.int (0) 0), (.int (3) 0), (.ref 50), (.bool true), (.int (181) 0), (.ref 51), .none, (.ref 52), (.ref 53), (.ref 54), (.int (272) 0), (.int (23) 0), (.str (.ofString "/claim/cut.py") 273)]), #[]⟩
noncomputable def hd.o56 : Params → Obj := (fun {a0 : Arguments} {b0 : List Stmt} {s0 : Scope} (_ : hd.defAt 16 = some (a0, b0, s0)) (P : Params) => (⟨(.type "function"), none, (.func ⟨(.ofString "fix"), (.ofString "fix"), a0, .stmts b0, s0, 3, [], .none, .none, .none, (.str (.ofString "scheme.words") 225), none, (.ref 55), .none, 0⟩), #[]⟩ : Obj)) rfl
noncomputable def hd.o57 : Params → Obj := fun P => ⟨(.type "tuple"), none, (.seq #[] 0), #[]⟩
noncomputable def hd.o58 : Params → Obj := fun P => ⟨.none, none, (.fields #[]), #[]⟩
noncomputable def hd.o59 : Params → Obj := fun P => ⟨(.type "tuple"), none, (.seq #[(.str (.ofString "address") 278)] 0), #[]⟩
noncomputable def hd.o60 : Params → Obj := fun P => ⟨(.type "tuple"), none, (.seq #[] 0), #[]⟩
noncomputable def hd.o61 : Params → Obj := (fun {a0 : Arguments} {b0 : List Stmt} {s0 : Scope} (_ : hd.defAt 17 = some (a0, b0, s0)) (P : Params) => (⟨.none, none, (.func ⟨(.ofString "ref"), (.ofString "ref"), a0, .stmts b0, s0, 0, [], .none, .none, .none, .none, none, .none, .none, 0⟩), #[]⟩ : Obj)) rfl
noncomputable def hd.o62 : Params → Obj := fun P => ⟨(.type "code"), none, (.fields #[(.str (.ofString "ref") 275), (.str (.ofString "ref") 276), (.str (.ofString "/claim/cut.py") 277), (.int (25) 0), (.int (1) 0), (.int (0) 0), (.int (0) 0), (.int (3) 0), (.ref 57), (.bool true), (.int (181) 0), (.ref 58), .none, (.ref 59), (.ref 60), (.ref 61), (.int (279) 0), (.int (25) 0), (.str (.ofString "/claim/cut.py") 280)]), #[]⟩
noncomputable def hd.o63 : Params → Obj := (fun {a0 : Arguments} {b0 : List Stmt} {s0 : Scope} (_ : hd.defAt 17 = some (a0, b0, s0)) (P : Params) => (⟨(.type "function"), none, (.func ⟨(.ofString "ref"), (.ofString "ref"), a0, .stmts b0, s0, 3, [], .none, .none, .none, (.str (.ofString "scheme.words") 225), none, (.ref 62), .none, 0⟩), #[]⟩ : Obj)) rfl
noncomputable def hd.o64 : Params → Obj := fun P => ⟨(.type "tuple"), none, (.seq #[] 0), #[]⟩
noncomputable def hd.o65 : Params → Obj := fun P => ⟨.none, none, (.fields #[]), #[]⟩
noncomputable def hd.o66 : Params → Obj := fun P => ⟨(.type "tuple"), none, (.seq #[(.str (.ofString "code") 285)] 0), #[]⟩
noncomputable def hd.o67 : Params → Obj := fun P => ⟨(.type "tuple"), none, (.seq #[] 0), #[]⟩
noncomputable def hd.o68 : Params → Obj := (fun {a0 : Arguments} {b0 : List Stmt} {s0 : Scope} (_ : hd.defAt 18 = some (a0, b0, s0)) (P : Params) => (⟨.none, none, (.func ⟨(.ofString "char_word"), (.ofString "char_word"), a0, .stmts b0, s0, 0, [], .none, .none, .none, .none, none, .none, .none, 0⟩), #[]⟩ : Obj)) rfl
noncomputable def hd.o69 : Params → Obj := fun P => ⟨(.type "code"), none, (.fields #[(.str (.ofString "char_word") 282), (.str (.ofString "char_word") 283), (.str (.ofString "/claim/cut.py") 284), (.int (27) 0), (.int (1) 0), (.int (0) 0), (.int (0) 0), (.int (3) 0), (.ref 64), (.bool true), (.int (181) 0), (.ref 65), .none, (.ref 66), (.ref 67), (.ref 68), (.int (286) 0), (.int (27) 0), (.str (.ofString "/claim/cut.py") 287)]), #[]⟩
noncomputable def hd.o70 : Params → Obj := (fun {a0 : Arguments} {b0 : List Stmt} {s0 : Scope} (_ : hd.defAt 18 = some (a0, b0, s0)) (P : Params) => (⟨(.type "function"), none, (.func ⟨(.ofString "char_word"), (.ofString "char_word"), a0, .stmts b0, s0, 3, [], .none, .none, .none, (.str (.ofString "scheme.words") 225), none, (.ref 69), .none, 0⟩), #[]⟩ : Obj)) rfl
noncomputable def hd.o71 : Params → Obj := fun P => ⟨(.type "tuple"), none, (.seq #[] 0), #[]⟩
noncomputable def hd.o72 : Params → Obj := fun P => ⟨.none, none, (.fields #[]), #[]⟩
noncomputable def hd.o73 : Params → Obj := fun P => ⟨(.type "tuple"), none, (.seq #[(.str (.ofString "number") 292)] 0), #[]⟩
noncomputable def hd.o74 : Params → Obj := fun P => ⟨(.type "tuple"), none, (.seq #[] 0), #[]⟩
noncomputable def hd.o75 : Params → Obj := (fun {a0 : Arguments} {b0 : List Stmt} {s0 : Scope} (_ : hd.defAt 19 = some (a0, b0, s0)) (P : Params) => (⟨.none, none, (.func ⟨(.ofString "symbol_word"), (.ofString "symbol_word"), a0, .stmts b0, s0, 0, [], .none, .none, .none, .none, none, .none, .none, 0⟩), #[]⟩ : Obj)) rfl
noncomputable def hd.o76 : Params → Obj := fun P => ⟨(.type "code"), none, (.fields #[(.str (.ofString "symbol_word") 289), (.str (.ofString "symbol_word") 290), (.str (.ofString "/claim/cut.py") 291), (.int (29) 0), (.int (1) 0), (.int (0) 0), (.int (0) 0), (.int (3) 0), (.ref 71), (.bool true), (.int (181) 0), (.ref 72), .none, (.ref 73), (.ref 74), (.ref 75), (.int (293) 0), (.int (29) 0), (.str (.ofString "/claim/cut.py") 294)]), #[]⟩
noncomputable def hd.o77 : Params → Obj := (fun {a0 : Arguments} {b0 : List Stmt} {s0 : Scope} (_ : hd.defAt 19 = some (a0, b0, s0)) (P : Params) => (⟨(.type "function"), none, (.func ⟨(.ofString "symbol_word"), (.ofString "symbol_word"), a0, .stmts b0, s0, 3, [], .none, .none, .none, (.str (.ofString "scheme.words") 225), none, (.ref 76), .none, 0⟩), #[]⟩ : Obj)) rfl
noncomputable def hd.o78 : Params → Obj := fun P => ⟨(.type "tuple"), none, (.seq #[] 0), #[]⟩
noncomputable def hd.o79 : Params → Obj := fun P => ⟨.none, none, (.fields #[]), #[]⟩
noncomputable def hd.o80 : Params → Obj := fun P => ⟨(.type "tuple"), none, (.seq #[(.str (.ofString "kind") 299), (.str (.ofString "length") 300)] 0), #[]⟩
noncomputable def hd.o81 : Params → Obj := fun P => ⟨(.type "tuple"), none, (.seq #[] 0), #[]⟩
noncomputable def hd.o82 : Params → Obj := (fun {a0 : Arguments} {b0 : List Stmt} {s0 : Scope} (_ : hd.defAt 20 = some (a0, b0, s0)) (P : Params) => (⟨.none, none, (.func ⟨(.ofString "header_word"), (.ofString "header_word"), a0, .stmts b0, s0, 0, [], .none, .none, .none, .none, none, .none, .none, 0⟩), #[]⟩ : Obj)) rfl
noncomputable def hd.o83 : Params → Obj := fun P => ⟨(.type "code"), none, (.fields #[(.str (.ofString "header_word") 296), (.str (.ofString "header_word") 297), (.str (.ofString "/claim/cut.py") 298), (.int (31) 0), (.int (2) 0), (.int (0) 0), (.int (0) 0), (.int (3) 0), (.ref 78), (.bool true), (.int (181) 0), (.ref 79), .none, (.ref 80), (.ref 81), (.ref 82), (.int (301) 0), (.int (31) 0), (.str (.ofString "/claim/cut.py") 302)]), #[]⟩
noncomputable def hd.o84 : Params → Obj := (fun {a0 : Arguments} {b0 : List Stmt} {s0 : Scope} (_ : hd.defAt 20 = some (a0, b0, s0)) (P : Params) => (⟨(.type "function"), none, (.func ⟨(.ofString "header_word"), (.ofString "header_word"), a0, .stmts b0, s0, 3, [], .none, .none, .none, (.str (.ofString "scheme.words") 225), none, (.ref 83), .none, 0⟩), #[]⟩ : Obj)) rfl
noncomputable def hd.o85 : Params → Obj := fun P => ⟨(.type "tuple"), none, (.seq #[] 0), #[]⟩
noncomputable def hd.o86 : Params → Obj := fun P => ⟨.none, none, (.fields #[]), #[]⟩
noncomputable def hd.o87 : Params → Obj := fun P => ⟨(.type "tuple"), none, (.seq #[(.str (.ofString "address") 307)] 0), #[]⟩
noncomputable def hd.o88 : Params → Obj := fun P => ⟨(.type "tuple"), none, (.seq #[] 0), #[]⟩
noncomputable def hd.o89 : Params → Obj := (fun {a0 : Arguments} {b0 : List Stmt} {s0 : Scope} (_ : hd.defAt 21 = some (a0, b0, s0)) (P : Params) => (⟨.none, none, (.func ⟨(.ofString "forward_word"), (.ofString "forward_word"), a0, .stmts b0, s0, 0, [], .none, .none, .none, .none, none, .none, .none, 0⟩), #[]⟩ : Obj)) rfl
noncomputable def hd.o90 : Params → Obj := fun P => ⟨(.type "code"), none, (.fields #[(.str (.ofString "forward_word") 304), (.str (.ofString "forward_word") 305), (.str (.ofString "/claim/cut.py") 306), (.int (33) 0), (.int (1) 0), (.int (0) 0), (.int (0) 0), (.int (3) 0), (.ref 85), (.bool true), (.int (181) 0), (.ref 86), .none, (.ref 87), (.ref 88), (.ref 89), (.int (308) 0), (.int (33) 0), (.str (.ofString "/claim/cut.py") 309)]), #[]⟩
noncomputable def hd.o91 : Params → Obj := (fun {a0 : Arguments} {b0 : List Stmt} {s0 : Scope} (_ : hd.defAt 21 = some (a0, b0, s0)) (P : Params) => (⟨(.type "function"), none, (.func ⟨(.ofString "forward_word"), (.ofString "forward_word"), a0, .stmts b0, s0, 3, [], .none, .none, .none, (.str (.ofString "scheme.words") 225), none, (.ref 90), .none, 0⟩), #[]⟩ : Obj)) rfl
noncomputable def hd.o92 : Params → Obj := fun P => ⟨(.type "tuple"), none, (.seq #[] 0), #[]⟩
noncomputable def hd.o93 : Params → Obj := fun P => ⟨.none, none, (.fields #[]), #[]⟩
noncomputable def hd.o94 : Params → Obj := fun P => ⟨(.type "tuple"), none, (.seq #[(.str (.ofString "word") 314)] 0), #[]⟩
noncomputable def hd.o95 : Params → Obj := fun P => ⟨(.type "tuple"), none, (.seq #[] 0), #[]⟩
noncomputable def hd.o96 : Params → Obj := (fun {a0 : Arguments} {b0 : List Stmt} {s0 : Scope} (_ : hd.defAt 22 = some (a0, b0, s0)) (P : Params) => (⟨.none, none, (.func ⟨(.ofString "is_ref"), (.ofString "is_ref"), a0, .stmts b0, s0, 0, [], .none, .none, .none, .none, none, .none, .none, 0⟩), #[]⟩ : Obj)) rfl
noncomputable def hd.o97 : Params → Obj := fun P => ⟨(.type "code"), none, (.fields #[(.str (.ofString "is_ref") 311), (.str (.ofString "is_ref") 312), (.str (.ofString "/claim/cut.py") 313), (.int (35) 0), (.int (1) 0), (.int (0) 0), (.int (0) 0), (.int (3) 0), (.ref 92), (.bool true), (.int (181) 0), (.ref 93), .none, (.ref 94), (.ref 95), (.ref 96), (.int (315) 0), (.int (35) 0), (.str (.ofString "/claim/cut.py") 316)]), #[]⟩
noncomputable def hd.o98 : Params → Obj := (fun {a0 : Arguments} {b0 : List Stmt} {s0 : Scope} (_ : hd.defAt 22 = some (a0, b0, s0)) (P : Params) => (⟨(.type "function"), none, (.func ⟨(.ofString "is_ref"), (.ofString "is_ref"), a0, .stmts b0, s0, 3, [], .none, .none, .none, (.str (.ofString "scheme.words") 225), none, (.ref 97), .none, 0⟩), #[]⟩ : Obj)) rfl
noncomputable def hd.o99 : Params → Obj := fun P => ⟨(.type "tuple"), none, (.seq #[] 0), #[]⟩
noncomputable def hd.o100 : Params → Obj := fun P => ⟨.none, none, (.fields #[]), #[]⟩
noncomputable def hd.o101 : Params → Obj := fun P => ⟨(.type "tuple"), none, (.seq #[(.str (.ofString "word") 321)] 0), #[]⟩
noncomputable def hd.o102 : Params → Obj := fun P => ⟨(.type "tuple"), none, (.seq #[] 0), #[]⟩
noncomputable def hd.o103 : Params → Obj := (fun {a0 : Arguments} {b0 : List Stmt} {s0 : Scope} (_ : hd.defAt 23 = some (a0, b0, s0)) (P : Params) => (⟨.none, none, (.func ⟨(.ofString "is_header"), (.ofString "is_header"), a0, .stmts b0, s0, 0, [], .none, .none, .none, .none, none, .none, .none, 0⟩), #[]⟩ : Obj)) rfl
noncomputable def hd.o104 : Params → Obj := fun P => ⟨(.type "code"), none, (.fields #[(.str (.ofString "is_header") 318), (.str (.ofString "is_header") 319), (.str (.ofString "/claim/cut.py") 320), (.int (37) 0), (.int (1) 0), (.int (0) 0), (.int (0) 0), (.int (3) 0), (.ref 99), (.bool true), (.int (181) 0), (.ref 100), .none, (.ref 101), (.ref 102), (.ref 103), (.int (322) 0), (.int (37) 0), (.str (.ofString "/claim/cut.py") 323)]), #[]⟩
noncomputable def hd.o105 : Params → Obj := (fun {a0 : Arguments} {b0 : List Stmt} {s0 : Scope} (_ : hd.defAt 23 = some (a0, b0, s0)) (P : Params) => (⟨(.type "function"), none, (.func ⟨(.ofString "is_header"), (.ofString "is_header"), a0, .stmts b0, s0, 3, [], .none, .none, .none, (.str (.ofString "scheme.words") 225), none, (.ref 104), .none, 0⟩), #[]⟩ : Obj)) rfl
noncomputable def hd.o106 : Params → Obj := fun P => ⟨(.type "tuple"), none, (.seq #[] 0), #[]⟩
noncomputable def hd.o107 : Params → Obj := fun P => ⟨.none, none, (.fields #[]), #[]⟩
noncomputable def hd.o108 : Params → Obj := fun P => ⟨(.type "tuple"), none, (.seq #[(.str (.ofString "header") 328)] 0), #[]⟩
noncomputable def hd.o109 : Params → Obj := fun P => ⟨(.type "tuple"), none, (.seq #[] 0), #[]⟩
noncomputable def hd.o110 : Params → Obj := (fun {a0 : Arguments} {b0 : List Stmt} {s0 : Scope} (_ : hd.defAt 24 = some (a0, b0, s0)) (P : Params) => (⟨.none, none, (.func ⟨(.ofString "header_kind"), (.ofString "header_kind"), a0, .stmts b0, s0, 0, [], .none, .none, .none, .none, none, .none, .none, 0⟩), #[]⟩ : Obj)) rfl
noncomputable def hd.o111 : Params → Obj := fun P => ⟨(.type "code"), none, (.fields #[(.str (.ofString "header_kind") 325), (.str (.ofString "header_kind") 326), (.str (.ofString "/claim/cut.py") 327), (.int (39) 0), (.int (1) 0), (.int (0) 0), (.int (0) 0), (.int (3) 0), (.ref 106), (.bool true), (.int (181) 0), (.ref 107), .none, (.ref 108), (.ref 109), (.ref 110), (.int (329) 0), (.int (39) 0), (.str (.ofString "/claim/cut.py") 330)]), #[]⟩
noncomputable def hd.o112 : Params → Obj := (fun {a0 : Arguments} {b0 : List Stmt} {s0 : Scope} (_ : hd.defAt 24 = some (a0, b0, s0)) (P : Params) => (⟨(.type "function"), none, (.func ⟨(.ofString "header_kind"), (.ofString "header_kind"), a0, .stmts b0, s0, 3, [], .none, .none, .none, (.str (.ofString "scheme.words") 225), none, (.ref 111), .none, 0⟩), #[]⟩ : Obj)) rfl
noncomputable def hd.o113 : Params → Obj := fun P => ⟨(.type "tuple"), none, (.seq #[] 0), #[]⟩
noncomputable def hd.o114 : Params → Obj := fun P => ⟨.none, none, (.fields #[]), #[]⟩
noncomputable def hd.o115 : Params → Obj := fun P => ⟨(.type "tuple"), none, (.seq #[(.str (.ofString "header") 335)] 0), #[]⟩
noncomputable def hd.o116 : Params → Obj := fun P => ⟨(.type "tuple"), none, (.seq #[] 0), #[]⟩
noncomputable def hd.o117 : Params → Obj := (fun {a0 : Arguments} {b0 : List Stmt} {s0 : Scope} (_ : hd.defAt 25 = some (a0, b0, s0)) (P : Params) => (⟨.none, none, (.func ⟨(.ofString "header_length"), (.ofString "header_length"), a0, .stmts b0, s0, 0, [], .none, .none, .none, .none, none, .none, .none, 0⟩), #[]⟩ : Obj)) rfl
noncomputable def hd.o118 : Params → Obj := fun P => ⟨(.type "code"), none, (.fields #[(.str (.ofString "header_length") 332), (.str (.ofString "header_length") 333), (.str (.ofString "/claim/cut.py") 334), (.int (41) 0), (.int (1) 0), (.int (0) 0), (.int (0) 0), (.int (3) 0), (.ref 113), (.bool true), (.int (181) 0), (.ref 114), .none, (.ref 115), (.ref 116), (.ref 117), (.int (336) 0), (.int (41) 0), (.str (.ofString "/claim/cut.py") 337)]), #[]⟩
noncomputable def hd.o119 : Params → Obj := (fun {a0 : Arguments} {b0 : List Stmt} {s0 : Scope} (_ : hd.defAt 25 = some (a0, b0, s0)) (P : Params) => (⟨(.type "function"), none, (.func ⟨(.ofString "header_length"), (.ofString "header_length"), a0, .stmts b0, s0, 3, [], .none, .none, .none, (.str (.ofString "scheme.words") 225), none, (.ref 118), .none, 0⟩), #[]⟩ : Obj)) rfl
noncomputable def hd.o120 : Params → Obj := fun P => ⟨(.type "tuple"), none, (.seq #[] 0), #[]⟩
noncomputable def hd.o121 : Params → Obj := fun P => ⟨.none, none, (.fields #[]), #[]⟩
noncomputable def hd.o122 : Params → Obj := fun P => ⟨(.type "tuple"), none, (.seq #[(.str (.ofString "word") 342), (.str (.ofString "tag") 343)] 0), #[]⟩
noncomputable def hd.o123 : Params → Obj := fun P => ⟨(.type "tuple"), none, (.seq #[] 0), #[]⟩
noncomputable def hd.o124 : Params → Obj := (fun {a0 : Arguments} {b0 : List Stmt} {s0 : Scope} (_ : hd.defAt 26 = some (a0, b0, s0)) (P : Params) => (⟨.none, none, (.func ⟨(.ofString "is_value_word"), (.ofString "is_value_word"), a0, .stmts b0, s0, 0, [], .none, .none, .none, .none, none, .none, .none, 0⟩), #[]⟩ : Obj)) rfl
noncomputable def hd.o125 : Params → Obj := fun P => ⟨(.type "code"), none, (.fields #[(.str (.ofString "is_value_word") 339), (.str (.ofString "is_value_word") 340), (.str (.ofString "/claim/cut.py") 341), (.int (43) 0), (.int (1) 0), (.int (0) 0), (.int (0) 0), (.int (3) 0), (.ref 120), (.bool true), (.int (181) 0), (.ref 121), .none, (.ref 122), (.ref 123), (.ref 124), (.int (344) 0), (.int (43) 0), (.str (.ofString "/claim/cut.py") 345)]), #[]⟩
noncomputable def hd.o126 : Params → Obj := (fun {a0 : Arguments} {b0 : List Stmt} {s0 : Scope} (_ : hd.defAt 26 = some (a0, b0, s0)) (P : Params) => (⟨(.type "function"), none, (.func ⟨(.ofString "is_value_word"), (.ofString "is_value_word"), a0, .stmts b0, s0, 3, [], .none, .none, .none, (.str (.ofString "scheme.words") 225), none, (.ref 125), .none, 0⟩), #[]⟩ : Obj)) rfl
noncomputable def hd.o127 : Params → Obj := fun P => ⟨(.type "tuple"), none, (.seq #[] 0), #[]⟩
noncomputable def hd.o128 : Params → Obj := fun P => ⟨(.type "builtin_function_or_method"), none, (.fields #[(.builtin "type.__prepare__"), (.type "type")]), #[]⟩
noncomputable def hd.o129 : Params → Obj := fun P => ⟨(.type "dict"), none, (.dict [⟨PyData.keyHash P (.ofString "__module__"), .str (.ofString "__module__") 356, (.str (.ofString "scheme.heap") 347)⟩, ⟨PyData.keyHash P (.ofString "__qualname__"), .str (.ofString "__qualname__") 358, (.str (.ofString "Heap") 357)⟩, ⟨PyData.keyHash P (.ofString "__firstlineno__"), .str (.ofString "__firstlineno__") 360, (.int (47) 359)⟩, ⟨PyData.keyHash P (.ofString "__init__"), .str (.ofString "__init__") 368, (.ref 140)⟩, ⟨PyData.keyHash P (.ofString "used"), .str (.ofString "used") 375, (.ref 147)⟩, ⟨PyData.keyHash P (.ofString "is_over"), .str (.ofString "is_over") 382, (.ref 154)⟩, ⟨PyData.keyHash P (.ofString "allocate"), .str (.ofString "allocate") 391, (.ref 161)⟩, ⟨PyData.keyHash P (.ofString "header_at"), .str (.ofString "header_at") 400, (.ref 168)⟩, ⟨PyData.keyHash P (.ofString "kind_of"), .str (.ofString "kind_of") 408, (.ref 175)⟩, ⟨PyData.keyHash P (.ofString "length_of"), .str (.ofString "length_of") 416, (.ref 182)⟩, ⟨PyData.keyHash P (.ofString "is_kind"), .str (.ofString "is_kind") 425, (.ref 189)⟩, ⟨PyData.keyHash P (.ofString "place_of"), .str (.ofString "place_of") 434, (.ref 196)⟩, ⟨PyData.keyHash P (.ofString "field"), .str (.ofString "field") 443, (.ref 203)⟩, ⟨PyData.keyHash P (.ofString "set_field"), .str (.ofString "set_field") 453, (.ref 210)⟩, ⟨PyData.keyHash P (.ofString "fields"), .str (.ofString "fields") 461, (.ref 217)⟩, ⟨PyData.keyHash P (.ofString "cons"), .str (.ofString "cons") 470, (.ref 224)⟩, ⟨PyData.keyHash P (.ofString "__static_attributes__"), .str (.ofString "__static_attributes__") 473, (.ref 225)⟩].toArray 17), #[]⟩
noncomputable def hd.o130 : Params → Obj := fun P => ⟨(.type "tuple"), none, (.seq #[] 0), #[]⟩
noncomputable def hd.o131 : Params → Obj := fun P => ⟨.none, none, (.fields #[(.int (49) 0), (.int (4) 0), (.ref 139), (.int (53) 0), (.int (4) 0), (.ref 146), (.int (56) 0), (.int (4) 0), (.ref 153), (.int (59) 0), (.int (4) 0), (.ref 160), (.int (62) 0), (.int (4) 0), (.ref 167), (.int (70) 0), (.int (4) 0), (.ref 174), (.int (73) 0), (.int (4) 0), (.ref 181), (.int (76) 0), (.int (4) 0), (.ref 188), (.int (79) 0), (.int (4) 0), (.ref 195), (.int (84) 0), (.int (4) 0), (.ref 202), (.int (87) 0), (.int (4) 0), (.ref 209), (.int (90) 0), (.int (4) 0), (.ref 216), (.int (93) 0), (.int (4) 0), (.ref 223)]), #[]⟩
noncomputable def hd.o132 : Params → Obj := fun P => ⟨(.type "code"), none, (.fields #[(.str (.ofString "Heap") 351), (.str (.ofString "Heap") 352), (.str (.ofString "/claim/cut.py") 353), (.int (47) 0), (.int (0) 0), (.int (0) 0), (.int (0) 0), (.int (0) 0), (.ref 130), (.bool false), (.int (181) 0), (.ref 131), .none, .none, .none, .none, (.int (354) 0), (.int (47) 0), (.str (.ofString "/claim/cut.py") 355)]), #[]⟩
noncomputable def hd.o133 : Params → Obj := fun P => ⟨(.type "frame"), none, .plain, #[some (.ref 132), some (.ref 3), some (.ref 129), none, some (.str (.ofString "scheme.heap") 347), none, some (.ref 0)]⟩
noncomputable def hd.o134 : Params → Obj := fun P => ⟨(.type "tuple"), none, (.seq #[] 0), #[]⟩
noncomputable def hd.o135 : Params → Obj := fun P => ⟨.none, none, (.fields #[]), #[]⟩
noncomputable def hd.o136 : Params → Obj := fun P => ⟨(.type "tuple"), none, (.seq #[(.str (.ofString "self") 364), (.str (.ofString "limit") 365)] 0), #[]⟩
noncomputable def hd.o137 : Params → Obj := fun P => ⟨(.type "tuple"), none, (.seq #[] 0), #[]⟩
noncomputable def hd.o138 : Params → Obj := (fun {a0 : Arguments} {b0 : List Stmt} {s0 : Scope} (_ : hd.methAt 28 0 = some (a0, b0, s0)) (P : Params) => (⟨.none, none, (.func ⟨(.ofString "__init__"), (.ofString "Heap.__init__"), a0, .stmts b0, s0, 0, [], .none, .none, .none, .none, none, .none, .none, 0⟩), #[]⟩ : Obj)) rfl
noncomputable def hd.o139 : Params → Obj := fun P => ⟨(.type "code"), none, (.fields #[(.str (.ofString "__init__") 361), (.str (.ofString "Heap.__init__") 362), (.str (.ofString "/claim/cut.py") 363), (.int (49) 0), (.int (2) 0), (.int (0) 0), (.int (0) 0), (.int (3) 0), (.ref 134), (.bool true), (.int (181) 0), (.ref 135), .none, (.ref 136), (.ref 137), (.ref 138), (.int (366) 0), (.int (49) 0), (.str (.ofString "/claim/cut.py") 367)]), #[]⟩
noncomputable def hd.o140 : Params → Obj := (fun {a0 : Arguments} {b0 : List Stmt} {s0 : Scope} (_ : hd.methAt 28 0 = some (a0, b0, s0)) (P : Params) => (⟨(.type "function"), none, (.func ⟨(.ofString "__init__"), (.ofString "Heap.__init__"), a0, .stmts b0, s0, 3, [], .none, .none, .none, (.str (.ofString "scheme.heap") 347), none, (.ref 139), .none, 0⟩), #[]⟩ : Obj)) rfl
noncomputable def hd.o141 : Params → Obj := fun P => ⟨(.type "tuple"), none, (.seq #[] 0), #[]⟩
noncomputable def hd.o142 : Params → Obj := fun P => ⟨.none, none, (.fields #[]), #[]⟩
noncomputable def hd.o143 : Params → Obj := fun P => ⟨(.type "tuple"), none, (.seq #[(.str (.ofString "self") 372)] 0), #[]⟩
noncomputable def hd.o144 : Params → Obj := fun P => ⟨(.type "tuple"), none, (.seq #[] 0), #[]⟩
noncomputable def hd.o145 : Params → Obj := (fun {a0 : Arguments} {b0 : List Stmt} {s0 : Scope} (_ : hd.methAt 28 1 = some (a0, b0, s0)) (P : Params) => (⟨.none, none, (.func ⟨(.ofString "used"), (.ofString "Heap.used"), a0, .stmts b0, s0, 0, [], .none, .none, .none, .none, none, .none, .none, 0⟩), #[]⟩ : Obj)) rfl
noncomputable def hd.o146 : Params → Obj := fun P => ⟨(.type "code"), none, (.fields #[(.str (.ofString "used") 369), (.str (.ofString "Heap.used") 370), (.str (.ofString "/claim/cut.py") 371), (.int (53) 0), (.int (1) 0), (.int (0) 0), (.int (0) 0), (.int (3) 0), (.ref 141), (.bool true), (.int (181) 0), (.ref 142), .none, (.ref 143), (.ref 144), (.ref 145), (.int (373) 0), (.int (53) 0), (.str (.ofString "/claim/cut.py") 374)]), #[]⟩
noncomputable def hd.o147 : Params → Obj := (fun {a0 : Arguments} {b0 : List Stmt} {s0 : Scope} (_ : hd.methAt 28 1 = some (a0, b0, s0)) (P : Params) => (⟨(.type "function"), none, (.func ⟨(.ofString "used"), (.ofString "Heap.used"), a0, .stmts b0, s0, 3, [], .none, .none, .none, (.str (.ofString "scheme.heap") 347), none, (.ref 146), .none, 0⟩), #[]⟩ : Obj)) rfl
noncomputable def hd.o148 : Params → Obj := fun P => ⟨(.type "tuple"), none, (.seq #[] 0), #[]⟩
noncomputable def hd.o149 : Params → Obj := fun P => ⟨.none, none, (.fields #[]), #[]⟩
noncomputable def hd.o150 : Params → Obj := fun P => ⟨(.type "tuple"), none, (.seq #[(.str (.ofString "self") 379)] 0), #[]⟩
noncomputable def hd.o151 : Params → Obj := fun P => ⟨(.type "tuple"), none, (.seq #[] 0), #[]⟩
noncomputable def hd.o152 : Params → Obj := (fun {a0 : Arguments} {b0 : List Stmt} {s0 : Scope} (_ : hd.methAt 28 2 = some (a0, b0, s0)) (P : Params) => (⟨.none, none, (.func ⟨(.ofString "is_over"), (.ofString "Heap.is_over"), a0, .stmts b0, s0, 0, [], .none, .none, .none, .none, none, .none, .none, 0⟩), #[]⟩ : Obj)) rfl
noncomputable def hd.o153 : Params → Obj := fun P => ⟨(.type "code"), none, (.fields #[(.str (.ofString "is_over") 376), (.str (.ofString "Heap.is_over") 377), (.str (.ofString "/claim/cut.py") 378), (.int (56) 0), (.int (1) 0), (.int (0) 0), (.int (0) 0), (.int (3) 0), (.ref 148), (.bool true), (.int (181) 0), (.ref 149), .none, (.ref 150), (.ref 151), (.ref 152), (.int (380) 0), (.int (56) 0), (.str (.ofString "/claim/cut.py") 381)]), #[]⟩
noncomputable def hd.o154 : Params → Obj := (fun {a0 : Arguments} {b0 : List Stmt} {s0 : Scope} (_ : hd.methAt 28 2 = some (a0, b0, s0)) (P : Params) => (⟨(.type "function"), none, (.func ⟨(.ofString "is_over"), (.ofString "Heap.is_over"), a0, .stmts b0, s0, 3, [], .none, .none, .none, (.str (.ofString "scheme.heap") 347), none, (.ref 153), .none, 0⟩), #[]⟩ : Obj)) rfl
noncomputable def hd.o155 : Params → Obj := fun P => ⟨(.type "tuple"), none, (.seq #[] 0), #[]⟩
noncomputable def hd.o156 : Params → Obj := fun P => ⟨.none, none, (.fields #[]), #[]⟩
noncomputable def hd.o157 : Params → Obj := fun P => ⟨(.type "tuple"), none, (.seq #[(.str (.ofString "self") 386), (.str (.ofString "kind") 387), (.str (.ofString "fields") 388)] 0), #[]⟩
noncomputable def hd.o158 : Params → Obj := fun P => ⟨(.type "tuple"), none, (.seq #[] 0), #[]⟩
noncomputable def hd.o159 : Params → Obj := (fun {a0 : Arguments} {b0 : List Stmt} {s0 : Scope} (_ : hd.methAt 28 3 = some (a0, b0, s0)) (P : Params) => (⟨.none, none, (.func ⟨(.ofString "allocate"), (.ofString "Heap.allocate"), a0, .stmts b0, s0, 0, [], .none, .none, .none, .none, none, .none, .none, 0⟩), #[]⟩ : Obj)) rfl
noncomputable def hd.o160 : Params → Obj := fun P => ⟨(.type "code"), none, (.fields #[(.str (.ofString "allocate") 383), (.str (.ofString "Heap.allocate") 384), (.str (.ofString "/claim/cut.py") 385), (.int (59) 0), (.int (3) 0), (.int (0) 0), (.int (0) 0), (.int (3) 0), (.ref 155), (.bool true), (.int (181) 0), (.ref 156), .none, (.ref 157), (.ref 158), (.ref 159), (.int (389) 0), (.int (59) 0), (.str (.ofString "/claim/cut.py") 390)]), #[]⟩
noncomputable def hd.o161 : Params → Obj := (fun {a0 : Arguments} {b0 : List Stmt} {s0 : Scope} (_ : hd.methAt 28 3 = some (a0, b0, s0)) (P : Params) => (⟨(.type "function"), none, (.func ⟨(.ofString "allocate"), (.ofString "Heap.allocate"), a0, .stmts b0, s0, 3, [], .none, .none, .none, (.str (.ofString "scheme.heap") 347), none, (.ref 160), .none, 0⟩), #[]⟩ : Obj)) rfl
noncomputable def hd.o162 : Params → Obj := fun P => ⟨(.type "tuple"), none, (.seq #[] 0), #[]⟩
noncomputable def hd.o163 : Params → Obj := fun P => ⟨.none, none, (.fields #[]), #[]⟩
noncomputable def hd.o164 : Params → Obj := fun P => ⟨(.type "tuple"), none, (.seq #[(.str (.ofString "self") 395), (.str (.ofString "word") 396), (.str (.ofString "address") 397)] 0), #[]⟩
noncomputable def hd.o165 : Params → Obj := fun P => ⟨(.type "tuple"), none, (.seq #[] 0), #[]⟩
noncomputable def hd.o166 : Params → Obj := (fun {a0 : Arguments} {b0 : List Stmt} {s0 : Scope} (_ : hd.methAt 28 4 = some (a0, b0, s0)) (P : Params) => (⟨.none, none, (.func ⟨(.ofString "header_at"), (.ofString "Heap.header_at"), a0, .stmts b0, s0, 0, [], .none, .none, .none, .none, none, .none, .none, 0⟩), #[]⟩ : Obj)) rfl
noncomputable def hd.o167 : Params → Obj := fun P => ⟨(.type "code"), none, (.fields #[(.str (.ofString "header_at") 392), (.str (.ofString "Heap.header_at") 393), (.str (.ofString "/claim/cut.py") 394), (.int (62) 0), (.int (2) 0), (.int (0) 0), (.int (0) 0), (.int (3) 0), (.ref 162), (.bool true), (.int (181) 0), (.ref 163), .none, (.ref 164), (.ref 165), (.ref 166), (.int (398) 0), (.int (62) 0), (.str (.ofString "/claim/cut.py") 399)]), #[]⟩
noncomputable def hd.o168 : Params → Obj := (fun {a0 : Arguments} {b0 : List Stmt} {s0 : Scope} (_ : hd.methAt 28 4 = some (a0, b0, s0)) (P : Params) => (⟨(.type "function"), none, (.func ⟨(.ofString "header_at"), (.ofString "Heap.header_at"), a0, .stmts b0, s0, 3, [], .none, .none, .none, (.str (.ofString "scheme.heap") 347), none, (.ref 167), .none, 0⟩), #[]⟩ : Obj)) rfl
noncomputable def hd.o169 : Params → Obj := fun P => ⟨(.type "tuple"), none, (.seq #[] 0), #[]⟩
noncomputable def hd.o170 : Params → Obj := fun P => ⟨.none, none, (.fields #[]), #[]⟩
noncomputable def hd.o171 : Params → Obj := fun P => ⟨(.type "tuple"), none, (.seq #[(.str (.ofString "self") 404), (.str (.ofString "word") 405)] 0), #[]⟩
noncomputable def hd.o172 : Params → Obj := fun P => ⟨(.type "tuple"), none, (.seq #[] 0), #[]⟩
noncomputable def hd.o173 : Params → Obj := (fun {a0 : Arguments} {b0 : List Stmt} {s0 : Scope} (_ : hd.methAt 28 5 = some (a0, b0, s0)) (P : Params) => (⟨.none, none, (.func ⟨(.ofString "kind_of"), (.ofString "Heap.kind_of"), a0, .stmts b0, s0, 0, [], .none, .none, .none, .none, none, .none, .none, 0⟩), #[]⟩ : Obj)) rfl
noncomputable def hd.o174 : Params → Obj := fun P => ⟨(.type "code"), none, (.fields #[(.str (.ofString "kind_of") 401), (.str (.ofString "Heap.kind_of") 402), (.str (.ofString "/claim/cut.py") 403), (.int (70) 0), (.int (2) 0), (.int (0) 0), (.int (0) 0), (.int (3) 0), (.ref 169), (.bool true), (.int (181) 0), (.ref 170), .none, (.ref 171), (.ref 172), (.ref 173), (.int (406) 0), (.int (70) 0), (.str (.ofString "/claim/cut.py") 407)]), #[]⟩
noncomputable def hd.o175 : Params → Obj := (fun {a0 : Arguments} {b0 : List Stmt} {s0 : Scope} (_ : hd.methAt 28 5 = some (a0, b0, s0)) (P : Params) => (⟨(.type "function"), none, (.func ⟨(.ofString "kind_of"), (.ofString "Heap.kind_of"), a0, .stmts b0, s0, 3, [], .none, .none, .none, (.str (.ofString "scheme.heap") 347), none, (.ref 174), .none, 0⟩), #[]⟩ : Obj)) rfl
noncomputable def hd.o176 : Params → Obj := fun P => ⟨(.type "tuple"), none, (.seq #[] 0), #[]⟩
noncomputable def hd.o177 : Params → Obj := fun P => ⟨.none, none, (.fields #[]), #[]⟩
noncomputable def hd.o178 : Params → Obj := fun P => ⟨(.type "tuple"), none, (.seq #[(.str (.ofString "self") 412), (.str (.ofString "word") 413)] 0), #[]⟩
noncomputable def hd.o179 : Params → Obj := fun P => ⟨(.type "tuple"), none, (.seq #[] 0), #[]⟩
noncomputable def hd.o180 : Params → Obj := (fun {a0 : Arguments} {b0 : List Stmt} {s0 : Scope} (_ : hd.methAt 28 6 = some (a0, b0, s0)) (P : Params) => (⟨.none, none, (.func ⟨(.ofString "length_of"), (.ofString "Heap.length_of"), a0, .stmts b0, s0, 0, [], .none, .none, .none, .none, none, .none, .none, 0⟩), #[]⟩ : Obj)) rfl
noncomputable def hd.o181 : Params → Obj := fun P => ⟨(.type "code"), none, (.fields #[(.str (.ofString "length_of") 409), (.str (.ofString "Heap.length_of") 410), (.str (.ofString "/claim/cut.py") 411), (.int (73) 0), (.int (2) 0), (.int (0) 0), (.int (0) 0), (.int (3) 0), (.ref 176), (.bool true), (.int (181) 0), (.ref 177), .none, (.ref 178), (.ref 179), (.ref 180), (.int (414) 0), (.int (73) 0), (.str (.ofString "/claim/cut.py") 415)]), #[]⟩
noncomputable def hd.o182 : Params → Obj := (fun {a0 : Arguments} {b0 : List Stmt} {s0 : Scope} (_ : hd.methAt 28 6 = some (a0, b0, s0)) (P : Params) => (⟨(.type "function"), none, (.func ⟨(.ofString "length_of"), (.ofString "Heap.length_of"), a0, .stmts b0, s0, 3, [], .none, .none, .none, (.str (.ofString "scheme.heap") 347), none, (.ref 181), .none, 0⟩), #[]⟩ : Obj)) rfl
noncomputable def hd.o183 : Params → Obj := fun P => ⟨(.type "tuple"), none, (.seq #[] 0), #[]⟩
noncomputable def hd.o184 : Params → Obj := fun P => ⟨.none, none, (.fields #[]), #[]⟩
noncomputable def hd.o185 : Params → Obj := fun P => ⟨(.type "tuple"), none, (.seq #[(.str (.ofString "self") 420), (.str (.ofString "word") 421), (.str (.ofString "kind") 422)] 0), #[]⟩
noncomputable def hd.o186 : Params → Obj := fun P => ⟨(.type "tuple"), none, (.seq #[] 0), #[]⟩
noncomputable def hd.o187 : Params → Obj := (fun {a0 : Arguments} {b0 : List Stmt} {s0 : Scope} (_ : hd.methAt 28 7 = some (a0, b0, s0)) (P : Params) => (⟨.none, none, (.func ⟨(.ofString "is_kind"), (.ofString "Heap.is_kind"), a0, .stmts b0, s0, 0, [], .none, .none, .none, .none, none, .none, .none, 0⟩), #[]⟩ : Obj)) rfl
noncomputable def hd.o188 : Params → Obj := fun P => ⟨(.type "code"), none, (.fields #[(.str (.ofString "is_kind") 417), (.str (.ofString "Heap.is_kind") 418), (.str (.ofString "/claim/cut.py") 419), (.int (76) 0), (.int (3) 0), (.int (0) 0), (.int (0) 0), (.int (3) 0), (.ref 183), (.bool true), (.int (181) 0), (.ref 184), .none, (.ref 185), (.ref 186), (.ref 187), (.int (423) 0), (.int (76) 0), (.str (.ofString "/claim/cut.py") 424)]), #[]⟩
noncomputable def hd.o189 : Params → Obj := (fun {a0 : Arguments} {b0 : List Stmt} {s0 : Scope} (_ : hd.methAt 28 7 = some (a0, b0, s0)) (P : Params) => (⟨(.type "function"), none, (.func ⟨(.ofString "is_kind"), (.ofString "Heap.is_kind"), a0, .stmts b0, s0, 3, [], .none, .none, .none, (.str (.ofString "scheme.heap") 347), none, (.ref 188), .none, 0⟩), #[]⟩ : Obj)) rfl
noncomputable def hd.o190 : Params → Obj := fun P => ⟨(.type "tuple"), none, (.seq #[] 0), #[]⟩
noncomputable def hd.o191 : Params → Obj := fun P => ⟨.none, none, (.fields #[]), #[]⟩
noncomputable def hd.o192 : Params → Obj := fun P => ⟨(.type "tuple"), none, (.seq #[(.str (.ofString "self") 429), (.str (.ofString "word") 430), (.str (.ofString "at") 431)] 0), #[]⟩
noncomputable def hd.o193 : Params → Obj := fun P => ⟨(.type "tuple"), none, (.seq #[] 0), #[]⟩
noncomputable def hd.o194 : Params → Obj := (fun {a0 : Arguments} {b0 : List Stmt} {s0 : Scope} (_ : hd.methAt 28 8 = some (a0, b0, s0)) (P : Params) => (⟨.none, none, (.func ⟨(.ofString "place_of"), (.ofString "Heap.place_of"), a0, .stmts b0, s0, 0, [], .none, .none, .none, .none, none, .none, .none, 0⟩), #[]⟩ : Obj)) rfl
noncomputable def hd.o195 : Params → Obj := fun P => ⟨(.type "code"), none, (.fields #[(.str (.ofString "place_of") 426), (.str (.ofString "Heap.place_of") 427), (.str (.ofString "/claim/cut.py") 428), (.int (79) 0), (.int (3) 0), (.int (0) 0), (.int (0) 0), (.int (3) 0), (.ref 190), (.bool true), (.int (181) 0), (.ref 191), .none, (.ref 192), (.ref 193), (.ref 194), (.int (432) 0), (.int (79) 0), (.str (.ofString "/claim/cut.py") 433)]), #[]⟩
noncomputable def hd.o196 : Params → Obj := (fun {a0 : Arguments} {b0 : List Stmt} {s0 : Scope} (_ : hd.methAt 28 8 = some (a0, b0, s0)) (P : Params) => (⟨(.type "function"), none, (.func ⟨(.ofString "place_of"), (.ofString "Heap.place_of"), a0, .stmts b0, s0, 3, [], .none, .none, .none, (.str (.ofString "scheme.heap") 347), none, (.ref 195), .none, 0⟩), #[]⟩ : Obj)) rfl
noncomputable def hd.o197 : Params → Obj := fun P => ⟨(.type "tuple"), none, (.seq #[] 0), #[]⟩
noncomputable def hd.o198 : Params → Obj := fun P => ⟨.none, none, (.fields #[]), #[]⟩
noncomputable def hd.o199 : Params → Obj := fun P => ⟨(.type "tuple"), none, (.seq #[(.str (.ofString "self") 438), (.str (.ofString "word") 439), (.str (.ofString "at") 440)] 0), #[]⟩
noncomputable def hd.o200 : Params → Obj := fun P => ⟨(.type "tuple"), none, (.seq #[] 0), #[]⟩
noncomputable def hd.o201 : Params → Obj := (fun {a0 : Arguments} {b0 : List Stmt} {s0 : Scope} (_ : hd.methAt 28 9 = some (a0, b0, s0)) (P : Params) => (⟨.none, none, (.func ⟨(.ofString "field"), (.ofString "Heap.field"), a0, .stmts b0, s0, 0, [], .none, .none, .none, .none, none, .none, .none, 0⟩), #[]⟩ : Obj)) rfl
noncomputable def hd.o202 : Params → Obj := fun P => ⟨(.type "code"), none, (.fields #[(.str (.ofString "field") 435), (.str (.ofString "Heap.field") 436), (.str (.ofString "/claim/cut.py") 437), (.int (84) 0), (.int (3) 0), (.int (0) 0), (.int (0) 0), (.int (3) 0), (.ref 197), (.bool true), (.int (181) 0), (.ref 198), .none, (.ref 199), (.ref 200), (.ref 201), (.int (441) 0), (.int (84) 0), (.str (.ofString "/claim/cut.py") 442)]), #[]⟩
noncomputable def hd.o203 : Params → Obj := (fun {a0 : Arguments} {b0 : List Stmt} {s0 : Scope} (_ : hd.methAt 28 9 = some (a0, b0, s0)) (P : Params) => (⟨(.type "function"), none, (.func ⟨(.ofString "field"), (.ofString "Heap.field"), a0, .stmts b0, s0, 3, [], .none, .none, .none, (.str (.ofString "scheme.heap") 347), none, (.ref 202), .none, 0⟩), #[]⟩ : Obj)) rfl
noncomputable def hd.o204 : Params → Obj := fun P => ⟨(.type "tuple"), none, (.seq #[] 0), #[]⟩
noncomputable def hd.o205 : Params → Obj := fun P => ⟨.none, none, (.fields #[]), #[]⟩
noncomputable def hd.o206 : Params → Obj := fun P => ⟨(.type "tuple"), none, (.seq #[(.str (.ofString "self") 447), (.str (.ofString "word") 448), (.str (.ofString "at") 449), (.str (.ofString "new") 450)] 0), #[]⟩
noncomputable def hd.o207 : Params → Obj := fun P => ⟨(.type "tuple"), none, (.seq #[] 0), #[]⟩
noncomputable def hd.o208 : Params → Obj := (fun {a0 : Arguments} {b0 : List Stmt} {s0 : Scope} (_ : hd.methAt 28 10 = some (a0, b0, s0)) (P : Params) => (⟨.none, none, (.func ⟨(.ofString "set_field"), (.ofString "Heap.set_field"), a0, .stmts b0, s0, 0, [], .none, .none, .none, .none, none, .none, .none, 0⟩), #[]⟩ : Obj)) rfl
noncomputable def hd.o209 : Params → Obj := fun P => ⟨(.type "code"), none, (.fields #[(.str (.ofString "set_field") 444), (.str (.ofString "Heap.set_field") 445), (.str (.ofString "/claim/cut.py") 446), (.int (87) 0), (.int (4) 0), (.int (0) 0), (.int (0) 0), (.int (3) 0), (.ref 204), (.bool true), (.int (181) 0), (.ref 205), .none, (.ref 206), (.ref 207), (.ref 208), (.int (451) 0), (.int (87) 0), (.str (.ofString "/claim/cut.py") 452)]), #[]⟩
noncomputable def hd.o210 : Params → Obj := (fun {a0 : Arguments} {b0 : List Stmt} {s0 : Scope} (_ : hd.methAt 28 10 = some (a0, b0, s0)) (P : Params) => (⟨(.type "function"), none, (.func ⟨(.ofString "set_field"), (.ofString "Heap.set_field"), a0, .stmts b0, s0, 3, [], .none, .none, .none, (.str (.ofString "scheme.heap") 347), none, (.ref 209), .none, 0⟩), #[]⟩ : Obj)) rfl
noncomputable def hd.o211 : Params → Obj := fun P => ⟨(.type "tuple"), none, (.seq #[] 0), #[]⟩
noncomputable def hd.o212 : Params → Obj := fun P => ⟨.none, none, (.fields #[]), #[]⟩
noncomputable def hd.o213 : Params → Obj := fun P => ⟨(.type "tuple"), none, (.seq #[(.str (.ofString "self") 457), (.str (.ofString "word") 458)] 0), #[]⟩
noncomputable def hd.o214 : Params → Obj := fun P => ⟨(.type "tuple"), none, (.seq #[] 0), #[]⟩
noncomputable def hd.o215 : Params → Obj := (fun {a0 : Arguments} {b0 : List Stmt} {s0 : Scope} (_ : hd.methAt 28 11 = some (a0, b0, s0)) (P : Params) => (⟨.none, none, (.func ⟨(.ofString "fields"), (.ofString "Heap.fields"), a0, .stmts b0, s0, 0, [], .none, .none, .none, .none, none, .none, .none, 0⟩), #[]⟩ : Obj)) rfl
noncomputable def hd.o216 : Params → Obj := fun P => ⟨(.type "code"), none, (.fields #[(.str (.ofString "fields") 454), (.str (.ofString "Heap.fields") 455), (.str (.ofString "/claim/cut.py") 456), (.int (90) 0), (.int (2) 0), (.int (0) 0), (.int (0) 0), (.int (3) 0), (.ref 211), (.bool true), (.int (181) 0), (.ref 212), .none, (.ref 213), (.ref 214), (.ref 215), (.int (459) 0), (.int (90) 0), (.str (.ofString "/claim/cut.py") 460)]), #[]⟩
noncomputable def hd.o217 : Params → Obj := (fun {a0 : Arguments} {b0 : List Stmt} {s0 : Scope} (_ : hd.methAt 28 11 = some (a0, b0, s0)) (P : Params) => (⟨(.type "function"), none, (.func ⟨(.ofString "fields"), (.ofString "Heap.fields"), a0, .stmts b0, s0, 3, [], .none, .none, .none, (.str (.ofString "scheme.heap") 347), none, (.ref 216), .none, 0⟩), #[]⟩ : Obj)) rfl
noncomputable def hd.o218 : Params → Obj := fun P => ⟨(.type "tuple"), none, (.seq #[] 0), #[]⟩
noncomputable def hd.o219 : Params → Obj := fun P => ⟨.none, none, (.fields #[]), #[]⟩
noncomputable def hd.o220 : Params → Obj := fun P => ⟨(.type "tuple"), none, (.seq #[(.str (.ofString "self") 465), (.str (.ofString "car") 466), (.str (.ofString "cdr") 467)] 0), #[]⟩
noncomputable def hd.o221 : Params → Obj := fun P => ⟨(.type "tuple"), none, (.seq #[] 0), #[]⟩
noncomputable def hd.o222 : Params → Obj := (fun {a0 : Arguments} {b0 : List Stmt} {s0 : Scope} (_ : hd.methAt 28 12 = some (a0, b0, s0)) (P : Params) => (⟨.none, none, (.func ⟨(.ofString "cons"), (.ofString "Heap.cons"), a0, .stmts b0, s0, 0, [], .none, .none, .none, .none, none, .none, .none, 0⟩), #[]⟩ : Obj)) rfl
noncomputable def hd.o223 : Params → Obj := fun P => ⟨(.type "code"), none, (.fields #[(.str (.ofString "cons") 462), (.str (.ofString "Heap.cons") 463), (.str (.ofString "/claim/cut.py") 464), (.int (93) 0), (.int (3) 0), (.int (0) 0), (.int (0) 0), (.int (3) 0), (.ref 218), (.bool true), (.int (181) 0), (.ref 219), .none, (.ref 220), (.ref 221), (.ref 222), (.int (468) 0), (.int (93) 0), (.str (.ofString "/claim/cut.py") 469)]), #[]⟩
noncomputable def hd.o224 : Params → Obj := (fun {a0 : Arguments} {b0 : List Stmt} {s0 : Scope} (_ : hd.methAt 28 12 = some (a0, b0, s0)) (P : Params) => (⟨(.type "function"), none, (.func ⟨(.ofString "cons"), (.ofString "Heap.cons"), a0, .stmts b0, s0, 3, [], .none, .none, .none, (.str (.ofString "scheme.heap") 347), none, (.ref 223), .none, 0⟩), #[]⟩ : Obj)) rfl
noncomputable def hd.o225 : Params → Obj := fun P => ⟨(.type "tuple"), none, (.seq #[(.str (.ofString "cells") 471), (.str (.ofString "limit") 472)] 0), #[]⟩
noncomputable def hd.o226 : Params → Obj := fun P => ⟨(.type "dict"), none, (.dict [⟨PyData.keyHash P (.ofString "__module__"), .str (.ofString "__module__") 356, (.str (.ofString "scheme.heap") 347)⟩, ⟨PyData.keyHash P (.ofString "__firstlineno__"), .str (.ofString "__firstlineno__") 360, (.int (47) 359)⟩, ⟨PyData.keyHash P (.ofString "__init__"), .str (.ofString "__init__") 368, (.ref 140)⟩, ⟨PyData.keyHash P (.ofString "used"), .str (.ofString "used") 375, (.ref 147)⟩, ⟨PyData.keyHash P (.ofString "is_over"), .str (.ofString "is_over") 382, (.ref 154)⟩, ⟨PyData.keyHash P (.ofString "allocate"), .str (.ofString "allocate") 391, (.ref 161)⟩, ⟨PyData.keyHash P (.ofString "header_at"), .str (.ofString "header_at") 400, (.ref 168)⟩, ⟨PyData.keyHash P (.ofString "kind_of"), .str (.ofString "kind_of") 408, (.ref 175)⟩, ⟨PyData.keyHash P (.ofString "length_of"), .str (.ofString "length_of") 416, (.ref 182)⟩, ⟨PyData.keyHash P (.ofString "is_kind"), .str (.ofString "is_kind") 425, (.ref 189)⟩, ⟨PyData.keyHash P (.ofString "place_of"), .str (.ofString "place_of") 434, (.ref 196)⟩, ⟨PyData.keyHash P (.ofString "field"), .str (.ofString "field") 443, (.ref 203)⟩, ⟨PyData.keyHash P (.ofString "set_field"), .str (.ofString "set_field") 453, (.ref 210)⟩, ⟨PyData.keyHash P (.ofString "fields"), .str (.ofString "fields") 461, (.ref 217)⟩, ⟨PyData.keyHash P (.ofString "cons"), .str (.ofString "cons") 470, (.ref 224)⟩, ⟨PyData.keyHash P (.ofString "__static_attributes__"), .str (.ofString "__static_attributes__") 473, (.ref 225)⟩, ⟨PyData.keyHash P (.ofString "__dict__"), .str (.ofString "__dict__") 475, (.ref 228)⟩, ⟨PyData.keyHash P (.ofString "__weakref__"), .str (.ofString "__weakref__") 477, (.ref 229)⟩, ⟨PyData.keyHash P (.ofString "__doc__"), .str (.ofString "__doc__") 478, .none⟩].toArray 4), #[]⟩
noncomputable def hd.o227 : Params → Obj := fun P => ⟨(.type "type"), none, (.cls ⟨(.ofString "Heap"), [(.type "object")], [(.ref 227), (.type "object")], 226, (.ofString "Heap"), true, [], [], false, none, false⟩), #[none, none, some (.str (.ofString "Heap") 349), some (.str (.ofString "Heap") 357), some (.builtin "object.__new__"), some (.bool true)]⟩
noncomputable def hd.o228 : Params → Obj := fun P => ⟨(.type "getset_descriptor"), none, (.fields #[(.str (.ofString "__dict__") 474), (.ref 227), (.builtin "function.__dict__"), (.builtin "function.__dict__#set")]), #[]⟩
noncomputable def hd.o229 : Params → Obj := fun P => ⟨(.type "getset_descriptor"), none, (.fields #[(.str (.ofString "__weakref__") 476), (.ref 227), (.builtin "ExceptionGroup.__weakref__"), .none]), #[]⟩
noncomputable def hd.o230 : Params → Obj := fun P => ⟨(.type "super"), none, (.fields #[(.ref 227), (.ref 227), (.ref 227)]), #[]⟩
noncomputable def hd.o231 : Params → Obj := fun P => ⟨(.type "builtin_function_or_method"), none, (.fields #[(.builtin "object.__init_subclass__"), (.ref 227)]), #[]⟩
noncomputable def hd.o232 : Params → Obj := fun P => ⟨(.type "tuple"), none, (.seq #[] 0), #[]⟩
noncomputable def hd.o233 : Params → Obj := fun P => ⟨.none, none, (.fields #[]), #[]⟩
noncomputable def hd.o234 : Params → Obj := fun P => ⟨(.type "tuple"), none, (.seq #[(.str (.ofString "heap") 484), (.str (.ofString "address") 485), (.str (.ofString "starts") 486), (.str (.ofString "header") 487), (.str (.ofString "kind") 488), (.str (.ofString "length") 489), (.str (.ofString "at") 490), (.str (.ofString "word") 491)] 0), #[]⟩
noncomputable def hd.o235 : Params → Obj := fun P => ⟨(.type "tuple"), none, (.seq #[] 0), #[]⟩
noncomputable def hd.o236 : Params → Obj := (fun {a0 : Arguments} {b0 : List Stmt} {s0 : Scope} (_ : hd.defAt 29 = some (a0, b0, s0)) (P : Params) => (⟨.none, none, (.func ⟨(.ofString "wrong_block"), (.ofString "wrong_block"), a0, .stmts b0, s0, 0, [], .none, .none, .none, .none, none, .none, .none, 0⟩), #[]⟩ : Obj)) rfl
noncomputable def hd.o237 : Params → Obj := fun P => ⟨(.type "code"), none, (.fields #[(.str (.ofString "wrong_block") 481), (.str (.ofString "wrong_block") 482), (.str (.ofString "/claim/cut.py") 483), (.int (95) 0), (.int (3) 0), (.int (0) 0), (.int (0) 0), (.int (3) 0), (.ref 232), (.bool true), (.int (181) 0), (.ref 233), .none, (.ref 234), (.ref 235), (.ref 236), (.int (492) 0), (.int (95) 0), (.str (.ofString "/claim/cut.py") 493)]), #[]⟩
noncomputable def hd.o238 : Params → Obj := (fun {a0 : Arguments} {b0 : List Stmt} {s0 : Scope} (_ : hd.defAt 29 = some (a0, b0, s0)) (P : Params) => (⟨(.type "function"), none, (.func ⟨(.ofString "wrong_block"), (.ofString "wrong_block"), a0, .stmts b0, s0, 3, [], .none, .none, .none, (.str (.ofString "scheme.heap") 347), none, (.ref 237), .none, 0⟩), #[]⟩ : Obj)) rfl
noncomputable def hd.o239 : Params → Obj := fun P => ⟨(.type "tuple"), none, (.seq #[] 0), #[]⟩
noncomputable def hd.o240 : Params → Obj := fun P => ⟨.none, none, (.fields #[]), #[]⟩
noncomputable def hd.o241 : Params → Obj := fun P => ⟨(.type "tuple"), none, (.seq #[(.str (.ofString "heap") 498), (.str (.ofString "at") 499), (.str (.ofString "starts") 500), (.str (.ofString "address") 501), (.str (.ofString "word") 502)] 0), #[]⟩
noncomputable def hd.o242 : Params → Obj := fun P => ⟨(.type "tuple"), none, (.seq #[] 0), #[]⟩
noncomputable def hd.o243 : Params → Obj := (fun {a0 : Arguments} {b0 : List Stmt} {s0 : Scope} (_ : hd.defAt 30 = some (a0, b0, s0)) (P : Params) => (⟨.none, none, (.func ⟨(.ofString "heap_error"), (.ofString "heap_error"), a0, .stmts b0, s0, 0, [], .none, .none, .none, .none, none, .none, .none, 0⟩), #[]⟩ : Obj)) rfl
noncomputable def hd.o244 : Params → Obj := fun P => ⟨(.type "code"), none, (.fields #[(.str (.ofString "heap_error") 495), (.str (.ofString "heap_error") 496), (.str (.ofString "/claim/cut.py") 497), (.int (111) 0), (.int (1) 0), (.int (0) 0), (.int (0) 0), (.int (3) 0), (.ref 239), (.bool true), (.int (181) 0), (.ref 240), .none, (.ref 241), (.ref 242), (.ref 243), (.int (503) 0), (.int (111) 0), (.str (.ofString "/claim/cut.py") 504)]), #[]⟩
noncomputable def hd.o245 : Params → Obj := (fun {a0 : Arguments} {b0 : List Stmt} {s0 : Scope} (_ : hd.defAt 30 = some (a0, b0, s0)) (P : Params) => (⟨(.type "function"), none, (.func ⟨(.ofString "heap_error"), (.ofString "heap_error"), a0, .stmts b0, s0, 3, [], .none, .none, .none, (.str (.ofString "scheme.heap") 347), none, (.ref 244), .none, 0⟩), #[]⟩ : Obj)) rfl
noncomputable def hd.o246 : Params → Obj := fun P => ⟨(.type "tuple"), none, (.seq #[] 0), #[]⟩
noncomputable def hd.o247 : Params → Obj := fun P => ⟨.none, none, (.fields #[]), #[]⟩
noncomputable def hd.o248 : Params → Obj := fun P => ⟨(.type "tuple"), none, (.seq #[(.str (.ofString "deck") 511), (.str (.ofString "many") 512)] 0), #[]⟩
noncomputable def hd.o249 : Params → Obj := fun P => ⟨(.type "tuple"), none, (.seq #[] 0), #[]⟩
noncomputable def hd.o250 : Params → Obj := (fun {a0 : Arguments} {b0 : List Stmt} {s0 : Scope} (_ : hd.defAt 32 = some (a0, b0, s0)) (P : Params) => (⟨.none, none, (.func ⟨(.ofString "_law_draw"), (.ofString "_law_draw"), a0, .stmts b0, s0, 0, [], .none, .none, .none, .none, none, .none, .none, 0⟩), #[]⟩ : Obj)) rfl
noncomputable def hd.o251 : Params → Obj := fun P => ⟨(.type "code"), none, (.fields #[(.str (.ofString "_law_draw") 508), (.str (.ofString "_law_draw") 509), (.str (.ofString "/claim/cut.py") 510), (.int (125) 0), (.int (2) 0), (.int (0) 0), (.int (0) 0), (.int (3) 0), (.ref 246), (.bool true), (.int (181) 0), (.ref 247), .none, (.ref 248), (.ref 249), (.ref 250), (.int (513) 0), (.int (125) 0), (.str (.ofString "/claim/cut.py") 514)]), #[]⟩
noncomputable def hd.o252 : Params → Obj := (fun {a0 : Arguments} {b0 : List Stmt} {s0 : Scope} (_ : hd.defAt 32 = some (a0, b0, s0)) (P : Params) => (⟨(.type "function"), none, (.func ⟨(.ofString "_law_draw"), (.ofString "_law_draw"), a0, .stmts b0, s0, 3, [], .none, .none, .none, (.str (.ofString "law_nt0254_01") 506), none, (.ref 251), .none, 0⟩), #[]⟩ : Obj)) rfl
noncomputable def hd.o253 : Params → Obj := fun P => ⟨(.type "tuple"), none, (.seq #[] 0), #[]⟩
noncomputable def hd.o254 : Params → Obj := fun P => ⟨.none, none, (.fields #[]), #[]⟩
noncomputable def hd.o255 : Params → Obj := fun P => ⟨(.type "tuple"), none, (.seq #[(.str (.ofString "deck") 519), (.str (.ofString "starts") 520), (.str (.ofString "way") 521), (.str (.ofString "number") 522)] 0), #[]⟩
noncomputable def hd.o256 : Params → Obj := fun P => ⟨(.type "tuple"), none, (.seq #[] 0), #[]⟩
noncomputable def hd.o257 : Params → Obj := (fun {a0 : Arguments} {b0 : List Stmt} {s0 : Scope} (_ : hd.defAt 33 = some (a0, b0, s0)) (P : Params) => (⟨.none, none, (.func ⟨(.ofString "_law_word"), (.ofString "_law_word"), a0, .stmts b0, s0, 0, [], .none, .none, .none, .none, none, .none, .none, 0⟩), #[]⟩ : Obj)) rfl
noncomputable def hd.o258 : Params → Obj := fun P => ⟨(.type "code"), none, (.fields #[(.str (.ofString "_law_word") 516), (.str (.ofString "_law_word") 517), (.str (.ofString "/claim/cut.py") 518), (.int (130) 0), (.int (2) 0), (.int (0) 0), (.int (0) 0), (.int (3) 0), (.ref 253), (.bool true), (.int (181) 0), (.ref 254), .none, (.ref 255), (.ref 256), (.ref 257), (.int (523) 0), (.int (130) 0), (.str (.ofString "/claim/cut.py") 524)]), #[]⟩
noncomputable def hd.o259 : Params → Obj := (fun {a0 : Arguments} {b0 : List Stmt} {s0 : Scope} (_ : hd.defAt 33 = some (a0, b0, s0)) (P : Params) => (⟨(.type "function"), none, (.func ⟨(.ofString "_law_word"), (.ofString "_law_word"), a0, .stmts b0, s0, 3, [], .none, .none, .none, (.str (.ofString "law_nt0254_01") 506), none, (.ref 258), .none, 0⟩), #[]⟩ : Obj)) rfl
noncomputable def hd.o260 : Params → Obj := fun P => ⟨(.type "tuple"), none, (.seq #[] 0), #[]⟩
noncomputable def hd.o261 : Params → Obj := fun P => ⟨.none, none, (.fields #[]), #[]⟩
noncomputable def hd.o262 : Params → Obj := (fun {a0 : Arguments} {b0 : List Stmt} {s0 : Scope} (_ : hd.defAt 34 = some (a0, b0, s0)) (P : Params) => (⟨.none, none, (.func ⟨(.ofString "_law_blocks"), (.ofString "_law_blocks"), a0, .stmts b0, s0, 0, [], .none, .none, .none, .none, none, .none, .none, 0⟩), #[]⟩ : Obj)) rfl
noncomputable def hd.o263 : Params → Obj := fun P => ⟨(.type "code"), none, (.fields #[(.str (.ofString "_law_blocks") 526), (.str (.ofString "_law_blocks") 527), (.str (.ofString "/claim/cut.py") 528), (.int (136) 0), (.int (1) 0), (.int (0) 0), (.int (0) 0), (.int (3) 0), (.ref 260), (.bool true), (.int (181) 0), (.ref 261), .none, .none, .none, (.ref 262), (.int (529) 0), (.int (136) 0), (.str (.ofString "/claim/cut.py") 530)]), #[]⟩
noncomputable def hd.o264 : Params → Obj := (fun {a0 : Arguments} {b0 : List Stmt} {s0 : Scope} (_ : hd.defAt 34 = some (a0, b0, s0)) (P : Params) => (⟨(.type "function"), none, (.func ⟨(.ofString "_law_blocks"), (.ofString "_law_blocks"), a0, .stmts b0, s0, 3, [], .none, .none, .none, (.str (.ofString "law_nt0254_01") 506), none, (.ref 263), .none, 0⟩), #[]⟩ : Obj)) rfl
noncomputable def hd.o265 : Params → Obj := fun P => ⟨(.type "tuple"), none, (.seq #[] 0), #[]⟩
noncomputable def hd.o266 : Params → Obj := fun P => ⟨.none, none, (.fields #[]), #[]⟩
noncomputable def hd.o267 : Params → Obj := fun P => ⟨(.type "tuple"), none, (.seq #[(.str (.ofString "blocks") 535), (.str (.ofString "found") 536), (.str (.ofString "kind") 537), (.str (.ofString "words") 538)] 0), #[]⟩
noncomputable def hd.o268 : Params → Obj := fun P => ⟨(.type "tuple"), none, (.seq #[] 0), #[]⟩
noncomputable def hd.o269 : Params → Obj := (fun {a0 : Arguments} {b0 : List Stmt} {s0 : Scope} (_ : hd.defAt 35 = some (a0, b0, s0)) (P : Params) => (⟨.none, none, (.func ⟨(.ofString "_law_heap"), (.ofString "_law_heap"), a0, .stmts b0, s0, 0, [], .none, .none, .none, .none, none, .none, .none, 0⟩), #[]⟩ : Obj)) rfl
noncomputable def hd.o270 : Params → Obj := fun P => ⟨(.type "code"), none, (.fields #[(.str (.ofString "_law_heap") 532), (.str (.ofString "_law_heap") 533), (.str (.ofString "/claim/cut.py") 534), (.int (143) 0), (.int (1) 0), (.int (0) 0), (.int (0) 0), (.int (3) 0), (.ref 265), (.bool true), (.int (181) 0), (.ref 266), .none, (.ref 267), (.ref 268), (.ref 269), (.int (539) 0), (.int (143) 0), (.str (.ofString "/claim/cut.py") 540)]), #[]⟩
noncomputable def hd.o271 : Params → Obj := (fun {a0 : Arguments} {b0 : List Stmt} {s0 : Scope} (_ : hd.defAt 35 = some (a0, b0, s0)) (P : Params) => (⟨(.type "function"), none, (.func ⟨(.ofString "_law_heap"), (.ofString "_law_heap"), a0, .stmts b0, s0, 3, [], .none, .none, .none, (.str (.ofString "law_nt0254_01") 506), none, (.ref 270), .none, 0⟩), #[]⟩ : Obj)) rfl
noncomputable def hd.o272 : Params → Obj := fun P => ⟨(.type "tuple"), none, (.seq #[] 0), #[]⟩
noncomputable def hd.o273 : Params → Obj := fun P => ⟨.none, none, (.fields #[]), #[]⟩
noncomputable def hd.o274 : Params → Obj := fun P => ⟨(.type "tuple"), none, (.seq #[(.str (.ofString "deck") 545), (.str (.ofString "cells") 546), (.str (.ofString "blocks") 547), (.str (.ofString "starts") 548), (.str (.ofString "way") 549), (.str (.ofString "at") 550), (.str (.ofString "place") 551), (.str (.ofString "many") 552)] 0), #[]⟩
noncomputable def hd.o275 : Params → Obj := fun P => ⟨(.type "tuple"), none, (.seq #[] 0), #[]⟩
noncomputable def hd.o276 : Params → Obj := (fun {a0 : Arguments} {b0 : List Stmt} {s0 : Scope} (_ : hd.defAt 36 = some (a0, b0, s0)) (P : Params) => (⟨.none, none, (.func ⟨(.ofString "_law_spoilt"), (.ofString "_law_spoilt"), a0, .stmts b0, s0, 0, [], .none, .none, .none, .none, none, .none, .none, 0⟩), #[]⟩ : Obj)) rfl
noncomputable def hd.o277 : Params → Obj := fun P => ⟨(.type "code"), none, (.fields #[(.str (.ofString "_law_spoilt") 542), (.str (.ofString "_law_spoilt") 543), (.str (.ofString "/claim/cut.py") 544), (.int (148) 0), (.int (4) 0), (.int (0) 0), (.int (0) 0), (.int (3) 0), (.ref 272), (.bool true), (.int (181) 0), (.ref 273), .none, (.ref 274), (.ref 275), (.ref 276), (.int (553) 0), (.int (148) 0), (.str (.ofString "/claim/cut.py") 554)]), #[]⟩
noncomputable def hd.o278 : Params → Obj := (fun {a0 : Arguments} {b0 : List Stmt} {s0 : Scope} (_ : hd.defAt 36 = some (a0, b0, s0)) (P : Params) => (⟨(.type "function"), none, (.func ⟨(.ofString "_law_spoilt"), (.ofString "_law_spoilt"), a0, .stmts b0, s0, 3, [], .none, .none, .none, (.str (.ofString "law_nt0254_01") 506), none, (.ref 277), .none, 0⟩), #[]⟩ : Obj)) rfl
noncomputable def hd.o279 : Params → Obj := fun P => ⟨(.type "tuple"), none, (.seq #[] 0), #[]⟩
noncomputable def hd.o280 : Params → Obj := fun P => ⟨.none, none, (.fields #[]), #[]⟩
noncomputable def hd.o281 : Params → Obj := (fun {a0 : Arguments} {b0 : List Stmt} {s0 : Scope} (_ : hd.defAt 37 = some (a0, b0, s0)) (P : Params) => (⟨.none, none, (.func ⟨(.ofString "law"), (.ofString "law"), a0, .stmts b0, s0, 0, [], .none, .none, .none, .none, none, .none, .none, 0⟩), #[]⟩ : Obj)) rfl
noncomputable def hd.o282 : Params → Obj := fun P => ⟨(.type "code"), none, (.fields #[(.str (.ofString "law") 556), (.str (.ofString "law") 557), (.str (.ofString "/claim/cut.py") 558), (.int (169) 0), (.int (1) 0), (.int (0) 0), (.int (0) 0), (.int (3) 0), (.ref 279), (.bool true), (.int (181) 0), (.ref 280), .none, .none, .none, (.ref 281), (.int (559) 0), (.int (169) 0), (.str (.ofString "/claim/cut.py") 560)]), #[]⟩
noncomputable def hd.o283 : Params → Obj := (fun {a0 : Arguments} {b0 : List Stmt} {s0 : Scope} (_ : hd.defAt 37 = some (a0, b0, s0)) (P : Params) => (⟨(.type "function"), none, (.func ⟨(.ofString "law"), (.ofString "law"), a0, .stmts b0, s0, 3, [], .none, .none, .none, (.str (.ofString "law_nt0254_01") 506), none, (.ref 282), .none, 0⟩), #[]⟩ : Obj)) rfl
noncomputable def hd.heap_39 : Params → Frag := fun P => ((nat_lit 2, hd.o2 P) :: (nat_lit 3, hd.o3 P) :: (nat_lit 15, hd.o15 P) :: (nat_lit 17, hd.o17 P) :: (nat_lit 18, hd.o18 P) :: (nat_lit 20, hd.o20 P) :: (nat_lit 21, hd.o21 P) :: (nat_lit 22, hd.o22 P) :: (nat_lit 29, hd.o29 P) :: (nat_lit 31, hd.o31 P) :: (nat_lit 32, hd.o32 P) :: (nat_lit 34, hd.o34 P) :: (nat_lit 35, hd.o35 P) :: (nat_lit 36, hd.o36 P) :: (nat_lit 37, hd.o37 P) :: (nat_lit 38, hd.o38 P) :: (nat_lit 39, hd.o39 P) :: (nat_lit 42, hd.o42 P) :: (nat_lit 43, hd.o43 P) :: (nat_lit 45, hd.o45 P) :: (nat_lit 46, hd.o46 P) :: (nat_lit 48, hd.o48 P) :: (nat_lit 49, hd.o49 P) :: (nat_lit 50, hd.o50 P) :: (nat_lit 52, hd.o52 P) :: (nat_lit 53, hd.o53 P) :: (nat_lit 55, hd.o55 P) :: (nat_lit 56, hd.o56 P) :: (nat_lit 57, hd.o57 P) :: (nat_lit 59, hd.o59 P) :: (nat_lit 60, hd.o60 P) :: (nat_lit 62, hd.o62 P) :: (nat_lit 63, hd.o63 P) :: (nat_lit 64, hd.o64 P) :: (nat_lit 66, hd.o66 P) :: (nat_lit 67, hd.o67 P) :: (nat_lit 69, hd.o69 P) :: (nat_lit 70, hd.o70 P) :: (nat_lit 71, hd.o71 P) :: (nat_lit 73, hd.o73 P) :: (nat_lit 74, hd.o74 P) :: (nat_lit 76, hd.o76 P) :: (nat_lit 77, hd.o77 P) :: (nat_lit 78, hd.o78 P) :: (nat_lit 80, hd.o80 P) :: (nat_lit 81, hd.o81 P) :: (nat_lit 83, hd.o83 P) :: (nat_lit 84, hd.o84 P) :: (nat_lit 85, hd.o85 P) :: (nat_lit 87, hd.o87 P) :: (nat_lit 88, hd.o88 P) :: (nat_lit 90, hd.o90 P) :: (nat_lit 91, hd.o91 P) :: (nat_lit 92, hd.o92 P) :: (nat_lit 94, hd.o94 P) :: (nat_lit 95, hd.o95 P) :: (nat_lit 97, hd.o97 P) :: (nat_lit 98, hd.o98 P) :: (nat_lit 99, hd.o99 P) :: (nat_lit 101, hd.o101 P) :: (nat_lit 102, hd.o102 P) :: (nat_lit 104, hd.o104 P) :: (nat_lit 105, hd.o105 P) :: (nat_lit 106, hd.o106 P) :: (nat_lit 108, hd.o108 P) :: (nat_lit 109, hd.o109 P) :: (nat_lit 111, hd.o111 P) :: (nat_lit 112, hd.o112 P) :: (nat_lit 113, hd.o113 P) :: (nat_lit 115, hd.o115 P) :: (nat_lit 116, hd.o116 P) :: (nat_lit 118, hd.o118 P) :: (nat_lit 119, hd.o119 P) :: (nat_lit 120, hd.o120 P) :: (nat_lit 122, hd.o122 P) :: (nat_lit 123, hd.o123 P) :: (nat_lit 125, hd.o125 P) :: (nat_lit 126, hd.o126 P) :: (nat_lit 134, hd.o134 P) :: (nat_lit 136, hd.o136 P) :: (nat_lit 137, hd.o137 P) :: (nat_lit 139, hd.o139 P) :: (nat_lit 140, hd.o140 P) :: (nat_lit 141, hd.o141 P) :: (nat_lit 143, hd.o143 P) :: (nat_lit 144, hd.o144 P) :: (nat_lit 146, hd.o146 P) :: (nat_lit 147, hd.o147 P) :: (nat_lit 148, hd.o148 P) :: (nat_lit 150, hd.o150 P) :: (nat_lit 151, hd.o151 P) :: (nat_lit 153, hd.o153 P) :: (nat_lit 154, hd.o154 P) :: (nat_lit 155, hd.o155 P) :: (nat_lit 157, hd.o157 P) :: (nat_lit 158, hd.o158 P) :: (nat_lit 160, hd.o160 P) :: (nat_lit 161, hd.o161 P) :: (nat_lit 162, hd.o162 P) :: (nat_lit 164, hd.o164 P) :: (nat_lit 165, hd.o165 P) :: (nat_lit 167, hd.o167 P) :: (nat_lit 168, hd.o168 P) :: (nat_lit 169, hd.o169 P) :: (nat_lit 171, hd.o171 P) :: (nat_lit 172, hd.o172 P) :: (nat_lit 174, hd.o174 P) :: (nat_lit 175, hd.o175 P) :: (nat_lit 176, hd.o176 P) :: (nat_lit 178, hd.o178 P) :: (nat_lit 179, hd.o179 P) :: (nat_lit 181, hd.o181 P) :: (nat_lit 182, hd.o182 P) :: (nat_lit 183, hd.o183 P) :: (nat_lit 185, hd.o185 P) :: (nat_lit 186, hd.o186 P) :: (nat_lit 188, hd.o188 P) :: (nat_lit 189, hd.o189 P) :: (nat_lit 190, hd.o190 P) :: (nat_lit 192, hd.o192 P) :: (nat_lit 193, hd.o193 P) :: (nat_lit 195, hd.o195 P) :: (nat_lit 196, hd.o196 P) :: (nat_lit 197, hd.o197 P) :: (nat_lit 199, hd.o199 P) :: (nat_lit 200, hd.o200 P) :: (nat_lit 202, hd.o202 P) :: (nat_lit 203, hd.o203 P) :: (nat_lit 204, hd.o204 P) :: (nat_lit 206, hd.o206 P) :: (nat_lit 207, hd.o207 P) :: (nat_lit 209, hd.o209 P) :: (nat_lit 210, hd.o210 P) :: (nat_lit 211, hd.o211 P) :: (nat_lit 213, hd.o213 P) :: (nat_lit 214, hd.o214 P) :: (nat_lit 216, hd.o216 P) :: (nat_lit 217, hd.o217 P) :: (nat_lit 218, hd.o218 P) :: (nat_lit 220, hd.o220 P) :: (nat_lit 221, hd.o221 P) :: (nat_lit 223, hd.o223 P) :: (nat_lit 224, hd.o224 P) :: (nat_lit 225, hd.o225 P) :: (nat_lit 226, hd.o226 P) :: (nat_lit 227, hd.o227 P) :: (nat_lit 228, hd.o228 P) :: (nat_lit 229, hd.o229 P) :: (nat_lit 232, hd.o232 P) :: (nat_lit 234, hd.o234 P) :: (nat_lit 235, hd.o235 P) :: (nat_lit 237, hd.o237 P) :: (nat_lit 238, hd.o238 P) :: (nat_lit 239, hd.o239 P) :: (nat_lit 241, hd.o241 P) :: (nat_lit 242, hd.o242 P) :: (nat_lit 244, hd.o244 P) :: (nat_lit 245, hd.o245 P) :: (nat_lit 246, hd.o246 P) :: (nat_lit 248, hd.o248 P) :: (nat_lit 249, hd.o249 P) :: (nat_lit 251, hd.o251 P) :: (nat_lit 252, hd.o252 P) :: (nat_lit 253, hd.o253 P) :: (nat_lit 255, hd.o255 P) :: (nat_lit 256, hd.o256 P) :: (nat_lit 258, hd.o258 P) :: (nat_lit 259, hd.o259 P) :: (nat_lit 260, hd.o260 P) :: (nat_lit 263, hd.o263 P) :: (nat_lit 264, hd.o264 P) :: (nat_lit 265, hd.o265 P) :: (nat_lit 267, hd.o267 P) :: (nat_lit 268, hd.o268 P) :: (nat_lit 270, hd.o270 P) :: (nat_lit 271, hd.o271 P) :: (nat_lit 272, hd.o272 P) :: (nat_lit 274, hd.o274 P) :: (nat_lit 275, hd.o275 P) :: (nat_lit 277, hd.o277 P) :: (nat_lit 278, hd.o278 P) :: (nat_lit 279, hd.o279 P) :: (nat_lit 282, hd.o282 P) :: (nat_lit 283, hd.o283 P) :: [])
noncomputable def hd.fin : Params → Heap := fun P => ⟨(boot_o_0 P :: boot_o_1 P :: hd.o2 P :: hd.o3 P :: boot_o_4 P :: boot_o_5 P :: boot_o_6 P :: boot_o_7 P :: boot_o_8 P :: boot_o_9 P :: boot_o_10 P :: hd.o11 P :: hd.o12 P :: hd.o13 P :: hd.o14 P :: hd.o15 P :: hd.o16 P :: hd.o17 P :: hd.o18 P :: hd.o19 P :: hd.o20 P :: hd.o21 P :: hd.o22 P :: hd.o23 P :: hd.o24 P :: hd.o25 P :: hd.o26 P :: hd.o27 P :: hd.o28 P :: hd.o29 P :: hd.o30 P :: hd.o31 P :: hd.o32 P :: hd.o33 P :: hd.o34 P :: hd.o35 P :: hd.o36 P :: hd.o37 P :: hd.o38 P :: hd.o39 P :: hd.o40 P :: hd.o41 P :: hd.o42 P :: hd.o43 P :: hd.o44 P :: hd.o45 P :: hd.o46 P :: hd.o47 P :: hd.o48 P :: hd.o49 P :: hd.o50 P :: hd.o51 P :: hd.o52 P :: hd.o53 P :: hd.o54 P :: hd.o55 P :: hd.o56 P :: hd.o57 P :: hd.o58 P :: hd.o59 P :: hd.o60 P :: hd.o61 P :: hd.o62 P :: hd.o63 P :: hd.o64 P :: hd.o65 P :: hd.o66 P :: hd.o67 P :: hd.o68 P :: hd.o69 P :: hd.o70 P :: hd.o71 P :: hd.o72 P :: hd.o73 P :: hd.o74 P :: hd.o75 P :: hd.o76 P :: hd.o77 P :: hd.o78 P :: hd.o79 P :: hd.o80 P :: hd.o81 P :: hd.o82 P :: hd.o83 P :: hd.o84 P :: hd.o85 P :: hd.o86 P :: hd.o87 P :: hd.o88 P :: hd.o89 P :: hd.o90 P :: hd.o91 P :: hd.o92 P :: hd.o93 P :: hd.o94 P :: hd.o95 P :: hd.o96 P :: hd.o97 P :: hd.o98 P :: hd.o99 P :: hd.o100 P :: hd.o101 P :: hd.o102 P :: hd.o103 P :: hd.o104 P :: hd.o105 P :: hd.o106 P :: hd.o107 P :: hd.o108 P :: hd.o109 P :: hd.o110 P :: hd.o111 P :: hd.o112 P :: hd.o113 P :: hd.o114 P :: hd.o115 P :: hd.o116 P :: hd.o117 P :: hd.o118 P :: hd.o119 P :: hd.o120 P :: hd.o121 P :: hd.o122 P :: hd.o123 P :: hd.o124 P :: hd.o125 P :: hd.o126 P :: hd.o127 P :: hd.o128 P :: hd.o129 P :: hd.o130 P :: hd.o131 P :: hd.o132 P :: hd.o133 P :: hd.o134 P :: hd.o135 P :: hd.o136 P :: hd.o137 P :: hd.o138 P :: hd.o139 P :: hd.o140 P :: hd.o141 P :: hd.o142 P :: hd.o143 P :: hd.o144 P :: hd.o145 P :: hd.o146 P :: hd.o147 P :: hd.o148 P :: hd.o149 P :: hd.o150 P :: hd.o151 P :: hd.o152 P :: hd.o153 P :: hd.o154 P :: hd.o155 P :: hd.o156 P :: hd.o157 P :: hd.o158 P :: hd.o159 P :: hd.o160 P :: hd.o161 P :: hd.o162 P :: hd.o163 P :: hd.o164 P :: hd.o165 P :: hd.o166 P :: hd.o167 P :: hd.o168 P :: hd.o169 P :: hd.o170 P :: hd.o171 P :: hd.o172 P :: hd.o173 P :: hd.o174 P :: hd.o175 P :: hd.o176 P :: hd.o177 P :: hd.o178 P :: hd.o179 P :: hd.o180 P :: hd.o181 P :: hd.o182 P :: hd.o183 P :: hd.o184 P :: hd.o185 P :: hd.o186 P :: hd.o187 P :: hd.o188 P :: hd.o189 P :: hd.o190 P :: hd.o191 P :: hd.o192 P :: hd.o193 P :: hd.o194 P :: hd.o195 P :: hd.o196 P :: hd.o197 P :: hd.o198 P :: hd.o199 P :: hd.o200 P :: hd.o201 P :: hd.o202 P :: hd.o203 P :: hd.o204 P :: hd.o205 P :: hd.o206 P :: hd.o207 P :: hd.o208 P :: hd.o209 P :: hd.o210 P :: hd.o211 P :: hd.o212 P :: hd.o213 P :: hd.o214 P :: hd.o215 P :: hd.o216 P :: hd.o217 P :: hd.o218 P :: hd.o219 P :: hd.o220 P :: hd.o221 P :: hd.o222 P :: hd.o223 P :: hd.o224 P :: hd.o225 P :: hd.o226 P :: hd.o227 P :: hd.o228 P :: hd.o229 P :: hd.o230 P :: hd.o231 P :: hd.o232 P :: hd.o233 P :: hd.o234 P :: hd.o235 P :: hd.o236 P :: hd.o237 P :: hd.o238 P :: hd.o239 P :: hd.o240 P :: hd.o241 P :: hd.o242 P :: hd.o243 P :: hd.o244 P :: hd.o245 P :: hd.o246 P :: hd.o247 P :: hd.o248 P :: hd.o249 P :: hd.o250 P :: hd.o251 P :: hd.o252 P :: hd.o253 P :: hd.o254 P :: hd.o255 P :: hd.o256 P :: hd.o257 P :: hd.o258 P :: hd.o259 P :: hd.o260 P :: hd.o261 P :: hd.o262 P :: hd.o263 P :: hd.o264 P :: hd.o265 P :: hd.o266 P :: hd.o267 P :: hd.o268 P :: hd.o269 P :: hd.o270 P :: hd.o271 P :: hd.o272 P :: hd.o273 P :: hd.o274 P :: hd.o275 P :: hd.o276 P :: hd.o277 P :: hd.o278 P :: hd.o279 P :: hd.o280 P :: hd.o281 P :: hd.o282 P :: hd.o283 P :: []).toArray, {}⟩
noncomputable def hd.view_39 : Program :=
  (fun {t0 t1 t2 t3 t4 t5 t6 t7 t8 t9 t10 t11 t12 t13 t14 t15 t16 t17 t18 t19 t20 t21 t22 t23 t24 t25 t26 t27 t28 t29 t30 t31 t32 t33 t34 t35 t36 t37 : Stmt} (_ : PySem.Challenge.pw_nt0254_01.main.body = [t0, t1, t2, t3, t4, t5, t6, t7, t8, t9, t10, t11, t12, t13, t14, t15, t16, t17, t18, t19, t20, t21, t22, t23, t24, t25, t26, t27, t28, t29, t30, t31, t32, t33, t34, t35, t36, t37]) => { PySem.Challenge.pw_nt0254_01 with main := { PySem.Challenge.pw_nt0254_01.main with body := [t0, t2, t4, t5, t6, t7, t8, t9, t10, t11, t12, t13, t14, t15, t16, t17, t18, t19, t20, t21, t22, t23, t24, t25, t26, t28, t29, t30, t32, t33, t34, t35, t36, t37] } }) rfl
abbrev hd.as : List Addr := [2, 3, 15, 17, 18, 20, 21, 22, 29, 31, 32, 34, 35, 36, 37, 38, 39, 42, 43, 45, 46, 48, 49, 50, 52, 53, 55, 56, 57, 59, 60, 62, 63, 64, 66, 67, 69, 70, 71, 73, 74, 76, 77, 78, 80, 81, 83, 84, 85, 87, 88, 90, 91, 92, 94, 95, 97, 98, 99, 101, 102, 104, 105, 106, 108, 109, 111, 112, 113, 115, 116, 118, 119, 120, 122, 123, 125, 126, 134, 136, 137, 139, 140, 141, 143, 144, 146, 147, 148, 150, 151, 153, 154, 155, 157, 158, 160, 161, 162, 164, 165, 167, 168, 169, 171, 172, 174, 175, 176, 178, 179, 181, 182, 183, 185, 186, 188, 189, 190, 192, 193, 195, 196, 197, 199, 200, 202, 203, 204, 206, 207, 209, 210, 211, 213, 214, 216, 217, 218, 220, 221, 223, 224, 225, 226, 227, 228, 229, 232, 234, 235, 237, 238, 239, 241, 242, 244, 245, 246, 248, 249, 251, 252, 253, 255, 256, 258, 259, 260, 263, 264, 265, 267, 268, 270, 271, 272, 274, 275, 277, 278, 279, 282, 283]
noncomputable def hd.heap_a : Params → Heap := fun P => ⟨#[boot_o_0 P, boot_o_1 P, boot_o_2 P, boot_o_3 P, boot_o_4 P, boot_o_5 P, boot_o_6 P, boot_o_7 P, boot_o_8 P, boot_o_9 P, boot_o_10 P, boot_o_7 P, boot_o_8 P, hd.o13 P, hd.o14 P], {}⟩
noncomputable abbrev hd.s_a (w : World) (os : OsState) : Shared := ⟨hd.heap_a w.params, Array.mk [], boot_drawn, 187, os⟩
noncomputable def hd.tree_b : Params → BT := fun P => (.node (boot_o_0 P) (.node (boot_o_1 P) (.node (boot_o_3 P) (.node (boot_o_7 P) .nil .nil) (.node (boot_o_7 P) .nil .nil)) (.node (boot_o_5 P) (.node (boot_o_9 P) .nil .nil) (.node (hd.o13 P) .nil .nil))) (.node (boot_o_2 P) (.node (boot_o_4 P) (.node (boot_o_8 P) .nil .nil) (.node (boot_o_8 P) .nil .nil)) (.node (boot_o_6 P) (.node (boot_o_10 P) .nil .nil) (.node (hd.o14 P) .nil .nil))))
noncomputable abbrev hd.s_b (w : World) (os : OsState) : SharedT := ⟨hd.tree_b w.params, nat_lit 15, {}, Array.mk [], boot_drawn, 187, os⟩
noncomputable def hd.g0_3 : Params → Obj := fun P => ⟨(.type "dict"), none, (.dict [⟨PyData.keyHash P (.ofString "__name__"), .str (.ofString "__name__") 165, (.str (.ofString "scheme.words") 225)⟩, ⟨PyData.keyHash P (.ofString "__doc__"), .str (.ofString "__doc__") 166, .none⟩, ⟨PyData.keyHash P (.ofString "__package__"), .str (.ofString "__package__") 167, .none⟩, ⟨PyData.keyHash P (.ofString "__loader__"), .str (.ofString "__loader__") 168, (.builtin "__main__.__loader__#opaque")⟩, ⟨PyData.keyHash P (.ofString "__spec__"), .str (.ofString "__spec__") 169, .none⟩, ⟨PyData.keyHash P (.ofString "__annotations__"), .str (.ofString "__annotations__") 170, (.ref 6)⟩, ⟨PyData.keyHash P (.ofString "__builtins__"), .str (.ofString "__builtins__") 171, (.ref 4)⟩, ⟨PyData.keyHash P (.ofString "__file__"), .str (.ofString "__file__") 173, (.str (.ofString "/claim/cut.py") 172)⟩, ⟨PyData.keyHash P (.ofString "__cached__"), .str (.ofString "__cached__") 174, .none⟩, ⟨PyData.keyHash P (.ofString "_wall"), .str (.ofString "_wall") 193, (.ref 21)⟩, ⟨PyData.keyHash P (.ofString "MachineFault"), .str (.ofString "MachineFault") 224, (.ref 38)⟩, ⟨PyData.keyHash P (.ofString "FIX"), .str (.ofString "FIX") 228, (.int (0) 227)⟩, ⟨PyData.keyHash P (.ofString "REF"), .str (.ofString "REF") 230, (.int (1) 229)⟩, ⟨PyData.keyHash P (.ofString "CHAR"), .str (.ofString "CHAR") 232, (.int (2) 231)⟩, ⟨PyData.keyHash P (.ofString "SYMBOL"), .str (.ofString "SYMBOL") 234, (.int (3) 233)⟩, ⟨PyData.keyHash P (.ofString "CONSTANT"), .str (.ofString "CONSTANT") 236, (.int (4) 235)⟩, ⟨PyData.keyHash P (.ofString "HEADER"), .str (.ofString "HEADER") 238, (.int (5) 237)⟩].toArray 17), #[]⟩
noncomputable def hd.g0_12 : Params → Obj := fun P => ⟨.none, none, (.fields #[(.int (1) 0), (.int (0) 0), (.ref 20), (.int (5) 0), (.int (0) 0), (.ref 27)]), #[]⟩
noncomputable def hd.tree_g0 : Params → BT := fun P => (.node (boot_o_0 P) (.node (boot_o_1 P) (.node (hd.g0_3 P) (.node (boot_o_7 P) (.node (boot_o_7 P) (.node (hd.o31 P) .nil .nil) .nil) (.node (hd.o23 P) (.node (hd.o39 P) .nil .nil) .nil)) (.node (boot_o_7 P) (.node (hd.o19 P) (.node (hd.o35 P) .nil .nil) .nil) (.node (hd.o27 P) .nil .nil))) (.node (boot_o_5 P) (.node (boot_o_9 P) (.node (hd.o17 P) (.node (hd.o33 P) .nil .nil) .nil) (.node (boot_o_7 P) (.node (hd.o41 P) .nil .nil) .nil)) (.node (hd.o13 P) (.node (hd.o21 P) (.node (hd.o37 P) .nil .nil) .nil) (.node (boot_o_7 P) .nil .nil)))) (.node (hd.o2 P) (.node (boot_o_4 P) (.node (boot_o_8 P) (.node (boot_o_8 P) (.node (boot_o_7 P) .nil .nil) .nil) (.node (hd.o24 P) (.node (hd.o40 P) .nil .nil) .nil)) (.node (hd.g0_12 P) (.node (hd.o20 P) (.node (hd.o36 P) .nil .nil) .nil) (.node (hd.o28 P) .nil .nil))) (.node (boot_o_6 P) (.node (boot_o_10 P) (.node (boot_o_7 P) (.node (hd.o34 P) .nil .nil) .nil) (.node (hd.o26 P) .nil .nil)) (.node (hd.o14 P) (.node (hd.o22 P) (.node (hd.o38 P) .nil .nil) .nil) (.node (boot_o_8 P) .nil .nil)))))
noncomputable abbrev hd.s_g0 (w : World) (os : OsState) : SharedT := ⟨hd.tree_g0 w.params, nat_lit 42, {}, Array.mk [], boot_drawn, 239, os⟩
noncomputable def hd.g1_3 : Params → Obj := fun P => ⟨(.type "dict"), none, (.dict [⟨PyData.keyHash P (.ofString "__name__"), .str (.ofString "__name__") 165, (.str (.ofString "scheme.words") 225)⟩, ⟨PyData.keyHash P (.ofString "__doc__"), .str (.ofString "__doc__") 166, .none⟩, ⟨PyData.keyHash P (.ofString "__package__"), .str (.ofString "__package__") 167, .none⟩, ⟨PyData.keyHash P (.ofString "__loader__"), .str (.ofString "__loader__") 168, (.builtin "__main__.__loader__#opaque")⟩, ⟨PyData.keyHash P (.ofString "__spec__"), .str (.ofString "__spec__") 169, .none⟩, ⟨PyData.keyHash P (.ofString "__annotations__"), .str (.ofString "__annotations__") 170, (.ref 6)⟩, ⟨PyData.keyHash P (.ofString "__builtins__"), .str (.ofString "__builtins__") 171, (.ref 4)⟩, ⟨PyData.keyHash P (.ofString "__file__"), .str (.ofString "__file__") 173, (.str (.ofString "/claim/cut.py") 172)⟩, ⟨PyData.keyHash P (.ofString "__cached__"), .str (.ofString "__cached__") 174, .none⟩, ⟨PyData.keyHash P (.ofString "_wall"), .str (.ofString "_wall") 193, (.ref 21)⟩, ⟨PyData.keyHash P (.ofString "MachineFault"), .str (.ofString "MachineFault") 224, (.ref 38)⟩, ⟨PyData.keyHash P (.ofString "FIX"), .str (.ofString "FIX") 228, (.int (0) 227)⟩, ⟨PyData.keyHash P (.ofString "REF"), .str (.ofString "REF") 230, (.int (1) 229)⟩, ⟨PyData.keyHash P (.ofString "CHAR"), .str (.ofString "CHAR") 232, (.int (2) 231)⟩, ⟨PyData.keyHash P (.ofString "SYMBOL"), .str (.ofString "SYMBOL") 234, (.int (3) 233)⟩, ⟨PyData.keyHash P (.ofString "CONSTANT"), .str (.ofString "CONSTANT") 236, (.int (4) 235)⟩, ⟨PyData.keyHash P (.ofString "HEADER"), .str (.ofString "HEADER") 238, (.int (5) 237)⟩, ⟨PyData.keyHash P (.ofString "FORWARD"), .str (.ofString "FORWARD") 240, (.int (6) 239)⟩, ⟨PyData.keyHash P (.ofString "TAGS"), .str (.ofString "TAGS") 242, (.int (8) 241)⟩, ⟨PyData.keyHash P (.ofString "EMPTY_LIST"), .str (.ofString "EMPTY_LIST") 246, (.int (20) 245)⟩, ⟨PyData.keyHash P (.ofString "KINDS"), .str (.ofString "KINDS") 248, (.int (16) 247)⟩, ⟨PyData.keyHash P (.ofString "KIND_SIZES"), .str (.ofString "KIND_SIZES") 260, (.ref 42)⟩, ⟨PyData.keyHash P (.ofString "payload_of"), .str (.ofString "payload_of") 267, (.ref 49)⟩, ⟨PyData.keyHash P (.ofString "fix"), .str (.ofString "fix") 274, (.ref 56)⟩, ⟨PyData.keyHash P (.ofString "ref"), .str (.ofString "ref") 281, (.ref 63)⟩, ⟨PyData.keyHash P (.ofString "char_word"), .str (.ofString "char_word") 288, (.ref 70)⟩, ⟨PyData.keyHash P (.ofString "symbol_word"), .str (.ofString "symbol_word") 295, (.ref 77)⟩, ⟨PyData.keyHash P (.ofString "header_word"), .str (.ofString "header_word") 303, (.ref 84)⟩, ⟨PyData.keyHash P (.ofString "forward_word"), .str (.ofString "forward_word") 310, (.ref 91)⟩, ⟨PyData.keyHash P (.ofString "is_ref"), .str (.ofString "is_ref") 317, (.ref 98)⟩].toArray 30), #[]⟩
noncomputable def hd.g1_12 : Params → Obj := fun P => ⟨.none, none, (.fields #[(.int (1) 0), (.int (0) 0), (.ref 20), (.int (5) 0), (.int (0) 0), (.ref 27), (.int (21) 0), (.int (0) 0), (.ref 48), (.int (23) 0), (.int (0) 0), (.ref 55), (.int (25) 0), (.int (0) 0), (.ref 62), (.int (27) 0), (.int (0) 0), (.ref 69), (.int (29) 0), (.int (0) 0), (.ref 76), (.int (31) 0), (.int (0) 0), (.ref 83), (.int (33) 0), (.int (0) 0), (.ref 90), (.int (35) 0), (.int (0) 0), (.ref 97)]), #[]⟩
noncomputable def hd.tree_g1 : Params → BT := fun P => (.node (boot_o_0 P) (.node (boot_o_1 P) (.node (hd.g1_3 P) (.node (boot_o_7 P) (.node (boot_o_7 P) (.node (hd.o31 P) (.node (hd.o63 P) .nil .nil) (.node (boot_o_7 P) .nil .nil)) (.node (hd.o47 P) (.node (boot_o_8 P) .nil .nil) .nil)) (.node (hd.o23 P) (.node (hd.o39 P) (.node (boot_o_7 P) .nil .nil) .nil) (.node (hd.o55 P) (.node (hd.o87 P) .nil .nil) .nil))) (.node (boot_o_7 P) (.node (hd.o19 P) (.node (hd.o35 P) (.node (boot_o_7 P) .nil .nil) .nil) (.node (boot_o_8 P) (.node (hd.o83 P) .nil .nil) .nil)) (.node (hd.o27 P) (.node (boot_o_7 P) (.node (hd.o75 P) .nil .nil) .nil) (.node (hd.o59 P) (.node (hd.o91 P) .nil .nil) .nil)))) (.node (boot_o_5 P) (.node (boot_o_9 P) (.node (hd.o17 P) (.node (hd.o33 P) (.node (boot_o_8 P) .nil .nil) (.node (hd.o97 P) .nil .nil)) (.node (hd.o49 P) (.node (boot_o_7 P) .nil .nil) .nil)) (.node (boot_o_7 P) (.node (hd.o41 P) (.node (hd.o73 P) .nil .nil) .nil) (.node (boot_o_7 P) (.node (hd.o89 P) .nil .nil) .nil))) (.node (hd.o13 P) (.node (hd.o21 P) (.node (hd.o37 P) (.node (hd.o69 P) .nil .nil) .nil) (.node (boot_o_7 P) (.node (boot_o_7 P) .nil .nil) .nil)) (.node (boot_o_7 P) (.node (hd.o45 P) (.node (hd.o77 P) .nil .nil) .nil) (.node (hd.o61 P) (.node (boot_o_8 P) .nil .nil) .nil))))) (.node (hd.o2 P) (.node (boot_o_4 P) (.node (boot_o_8 P) (.node (boot_o_8 P) (.node (boot_o_7 P) (.node (boot_o_7 P) .nil .nil) (.node (hd.o96 P) .nil .nil)) (.node (hd.o48 P) (.node (hd.o80 P) .nil .nil) .nil)) (.node (hd.o24 P) (.node (hd.o40 P) (.node (boot_o_8 P) .nil .nil) .nil) (.node (hd.o56 P) (.node (boot_o_7 P) .nil .nil) .nil))) (.node (hd.g1_12 P) (.node (hd.o20 P) (.node (hd.o36 P) (.node (hd.o68 P) .nil .nil) .nil) (.node (hd.o52 P) (.node (hd.o84 P) .nil .nil) .nil)) (.node (hd.o28 P) (.node (boot_o_8 P) (.node (hd.o76 P) .nil .nil) .nil) (.node (boot_o_7 P) (.node (boot_o_7 P) .nil .nil) .nil)))) (.node (boot_o_6 P) (.node (boot_o_10 P) (.node (boot_o_7 P) (.node (hd.o34 P) (.node (hd.o66 P) .nil .nil) (.node (hd.o98 P) .nil .nil)) (.node (boot_o_7 P) (.node (hd.o82 P) .nil .nil) .nil)) (.node (hd.o26 P) (.node (hd.o42 P) (.node (boot_o_7 P) .nil .nil) .nil) (.node (boot_o_8 P) (.node (hd.o90 P) .nil .nil) .nil))) (.node (hd.o14 P) (.node (hd.o22 P) (.node (hd.o38 P) (.node (hd.o70 P) .nil .nil) .nil) (.node (hd.o54 P) (.node (boot_o_8 P) .nil .nil) .nil)) (.node (boot_o_8 P) (.node (boot_o_7 P) (.node (boot_o_7 P) .nil .nil) .nil) (.node (hd.o62 P) (.node (hd.o94 P) .nil .nil) .nil))))))
noncomputable abbrev hd.s_g1 (w : World) (os : OsState) : SharedT := ⟨hd.tree_g1 w.params, nat_lit 99, {}, Array.mk [], boot_drawn, 318, os⟩
noncomputable def hd.g2_3 : Params → Obj := fun P => ⟨(.type "dict"), none, (.dict [⟨PyData.keyHash P (.ofString "__name__"), .str (.ofString "__name__") 165, (.str (.ofString "scheme.heap") 347)⟩, ⟨PyData.keyHash P (.ofString "__doc__"), .str (.ofString "__doc__") 166, .none⟩, ⟨PyData.keyHash P (.ofString "__package__"), .str (.ofString "__package__") 167, .none⟩, ⟨PyData.keyHash P (.ofString "__loader__"), .str (.ofString "__loader__") 168, (.builtin "__main__.__loader__#opaque")⟩, ⟨PyData.keyHash P (.ofString "__spec__"), .str (.ofString "__spec__") 169, .none⟩, ⟨PyData.keyHash P (.ofString "__annotations__"), .str (.ofString "__annotations__") 170, (.ref 6)⟩, ⟨PyData.keyHash P (.ofString "__builtins__"), .str (.ofString "__builtins__") 171, (.ref 4)⟩, ⟨PyData.keyHash P (.ofString "__file__"), .str (.ofString "__file__") 173, (.str (.ofString "/claim/cut.py") 172)⟩, ⟨PyData.keyHash P (.ofString "__cached__"), .str (.ofString "__cached__") 174, .none⟩, ⟨PyData.keyHash P (.ofString "_wall"), .str (.ofString "_wall") 193, (.ref 21)⟩, ⟨PyData.keyHash P (.ofString "MachineFault"), .str (.ofString "MachineFault") 224, (.ref 38)⟩, ⟨PyData.keyHash P (.ofString "FIX"), .str (.ofString "FIX") 228, (.int (0) 227)⟩, ⟨PyData.keyHash P (.ofString "REF"), .str (.ofString "REF") 230, (.int (1) 229)⟩, ⟨PyData.keyHash P (.ofString "CHAR"), .str (.ofString "CHAR") 232, (.int (2) 231)⟩, ⟨PyData.keyHash P (.ofString "SYMBOL"), .str (.ofString "SYMBOL") 234, (.int (3) 233)⟩, ⟨PyData.keyHash P (.ofString "CONSTANT"), .str (.ofString "CONSTANT") 236, (.int (4) 235)⟩, ⟨PyData.keyHash P (.ofString "HEADER"), .str (.ofString "HEADER") 238, (.int (5) 237)⟩, ⟨PyData.keyHash P (.ofString "FORWARD"), .str (.ofString "FORWARD") 240, (.int (6) 239)⟩, ⟨PyData.keyHash P (.ofString "TAGS"), .str (.ofString "TAGS") 242, (.int (8) 241)⟩, ⟨PyData.keyHash P (.ofString "EMPTY_LIST"), .str (.ofString "EMPTY_LIST") 246, (.int (20) 245)⟩, ⟨PyData.keyHash P (.ofString "KINDS"), .str (.ofString "KINDS") 248, (.int (16) 247)⟩, ⟨PyData.keyHash P (.ofString "KIND_SIZES"), .str (.ofString "KIND_SIZES") 260, (.ref 42)⟩, ⟨PyData.keyHash P (.ofString "payload_of"), .str (.ofString "payload_of") 267, (.ref 49)⟩, ⟨PyData.keyHash P (.ofString "fix"), .str (.ofString "fix") 274, (.ref 56)⟩, ⟨PyData.keyHash P (.ofString "ref"), .str (.ofString "ref") 281, (.ref 63)⟩, ⟨PyData.keyHash P (.ofString "char_word"), .str (.ofString "char_word") 288, (.ref 70)⟩, ⟨PyData.keyHash P (.ofString "symbol_word"), .str (.ofString "symbol_word") 295, (.ref 77)⟩, ⟨PyData.keyHash P (.ofString "header_word"), .str (.ofString "header_word") 303, (.ref 84)⟩, ⟨PyData.keyHash P (.ofString "forward_word"), .str (.ofString "forward_word") 310, (.ref 91)⟩, ⟨PyData.keyHash P (.ofString "is_ref"), .str (.ofString "is_ref") 317, (.ref 98)⟩, ⟨PyData.keyHash P (.ofString "is_header"), .str (.ofString "is_header") 324, (.ref 105)⟩, ⟨PyData.keyHash P (.ofString "header_kind"), .str (.ofString "header_kind") 331, (.ref 112)⟩, ⟨PyData.keyHash P (.ofString "header_length"), .str (.ofString "header_length") 338, (.ref 119)⟩, ⟨PyData.keyHash P (.ofString "is_value_word"), .str (.ofString "is_value_word") 346, (.ref 126)⟩].toArray 34), #[]⟩
noncomputable def hd.g2_12 : Params → Obj := fun P => ⟨.none, none, (.fields #[(.int (1) 0), (.int (0) 0), (.ref 20), (.int (5) 0), (.int (0) 0), (.ref 27), (.int (21) 0), (.int (0) 0), (.ref 48), (.int (23) 0), (.int (0) 0), (.ref 55), (.int (25) 0), (.int (0) 0), (.ref 62), (.int (27) 0), (.int (0) 0), (.ref 69), (.int (29) 0), (.int (0) 0), (.ref 76), (.int (31) 0), (.int (0) 0), (.ref 83), (.int (33) 0), (.int (0) 0), (.ref 90), (.int (35) 0), (.int (0) 0), (.ref 97), (.int (37) 0), (.int (0) 0), (.ref 104), (.int (39) 0), (.int (0) 0), (.ref 111), (.int (41) 0), (.int (0) 0), (.ref 118), (.int (43) 0), (.int (0) 0), (.ref 125)]), #[]⟩
noncomputable def hd.tree_g2 : Params → BT := fun P => (.node (boot_o_0 P) (.node (boot_o_1 P) (.node (hd.g2_3 P) (.node (boot_o_7 P) (.node (boot_o_7 P) (.node (hd.o31 P) (.node (hd.o63 P) .nil .nil) (.node (boot_o_7 P) .nil .nil)) (.node (hd.o47 P) (.node (boot_o_8 P) .nil .nil) (.node (hd.o111 P) .nil .nil))) (.node (hd.o23 P) (.node (hd.o39 P) (.node (boot_o_7 P) .nil .nil) (.node (hd.o103 P) .nil .nil)) (.node (hd.o55 P) (.node (hd.o87 P) .nil .nil) (.node (hd.o119 P) .nil .nil)))) (.node (boot_o_7 P) (.node (hd.o19 P) (.node (hd.o35 P) (.node (boot_o_7 P) .nil .nil) (.node (boot_o_7 P) .nil .nil)) (.node (boot_o_8 P) (.node (hd.o83 P) .nil .nil) (.node (hd.o115 P) .nil .nil))) (.node (hd.o27 P) (.node (boot_o_7 P) (.node (hd.o75 P) .nil .nil) (.node (boot_o_8 P) .nil .nil)) (.node (hd.o59 P) (.node (hd.o91 P) .nil .nil) (.node (boot_o_7 P) .nil .nil))))) (.node (boot_o_5 P) (.node (boot_o_9 P) (.node (hd.o17 P) (.node (hd.o33 P) (.node (boot_o_8 P) .nil .nil) (.node (hd.o97 P) .nil .nil)) (.node (hd.o49 P) (.node (boot_o_7 P) .nil .nil) (.node (boot_o_7 P) .nil .nil))) (.node (boot_o_7 P) (.node (hd.o41 P) (.node (hd.o73 P) .nil .nil) (.node (hd.o105 P) .nil .nil)) (.node (boot_o_7 P) (.node (hd.o89 P) .nil .nil) (.node (boot_o_8 P) .nil .nil)))) (.node (hd.o13 P) (.node (hd.o21 P) (.node (hd.o37 P) (.node (hd.o69 P) .nil .nil) (.node (hd.o101 P) .nil .nil)) (.node (boot_o_7 P) (.node (boot_o_7 P) .nil .nil) (.node (hd.o117 P) .nil .nil))) (.node (boot_o_7 P) (.node (hd.o45 P) (.node (hd.o77 P) .nil .nil) (.node (boot_o_7 P) .nil .nil)) (.node (hd.o61 P) (.node (boot_o_8 P) .nil .nil) (.node (hd.o125 P) .nil .nil)))))) (.node (hd.o2 P) (.node (boot_o_4 P) (.node (boot_o_8 P) (.node (boot_o_8 P) (.node (boot_o_7 P) (.node (boot_o_7 P) .nil .nil) (.node (hd.o96 P) .nil .nil)) (.node (hd.o48 P) (.node (hd.o80 P) .nil .nil) (.node (hd.o112 P) .nil .nil))) (.node (hd.o24 P) (.node (hd.o40 P) (.node (boot_o_8 P) .nil .nil) (.node (hd.o104 P) .nil .nil)) (.node (hd.o56 P) (.node (boot_o_7 P) .nil .nil) (.node (boot_o_7 P) .nil .nil)))) (.node (hd.g2_12 P) (.node (hd.o20 P) (.node (hd.o36 P) (.node (hd.o68 P) .nil .nil) (.node (boot_o_8 P) .nil .nil)) (.node (hd.o52 P) (.node (hd.o84 P) .nil .nil) (.node (boot_o_7 P) .nil .nil))) (.node (hd.o28 P) (.node (boot_o_8 P) (.node (hd.o76 P) .nil .nil) (.node (hd.o108 P) .nil .nil)) (.node (boot_o_7 P) (.node (boot_o_7 P) .nil .nil) (.node (hd.o124 P) .nil .nil))))) (.node (boot_o_6 P) (.node (boot_o_10 P) (.node (boot_o_7 P) (.node (hd.o34 P) (.node (hd.o66 P) .nil .nil) (.node (hd.o98 P) .nil .nil)) (.node (boot_o_7 P) (.node (hd.o82 P) .nil .nil) (.node (boot_o_8 P) .nil .nil))) (.node (hd.o26 P) (.node (hd.o42 P) (.node (boot_o_7 P) .nil .nil) (.node (boot_o_7 P) .nil .nil)) (.node (boot_o_8 P) (.node (hd.o90 P) .nil .nil) (.node (hd.o122 P) .nil .nil)))) (.node (hd.o14 P) (.node (hd.o22 P) (.node (hd.o38 P) (.node (hd.o70 P) .nil .nil) (.node (boot_o_7 P) .nil .nil)) (.node (hd.o54 P) (.node (boot_o_8 P) .nil .nil) (.node (hd.o118 P) .nil .nil))) (.node (boot_o_8 P) (.node (boot_o_7 P) (.node (boot_o_7 P) .nil .nil) (.node (hd.o110 P) .nil .nil)) (.node (hd.o62 P) (.node (hd.o94 P) .nil .nil) (.node (hd.o126 P) .nil .nil)))))))
noncomputable abbrev hd.s_g2 (w : World) (os : OsState) : SharedT := ⟨hd.tree_g2 w.params, nat_lit 127, {}, Array.mk [], boot_drawn, 349, os⟩
noncomputable def hd.g3_3 : Params → Obj := fun P => ⟨(.type "dict"), none, (.dict [⟨PyData.keyHash P (.ofString "__name__"), .str (.ofString "__name__") 165, (.str (.ofString "scheme.heap") 347)⟩, ⟨PyData.keyHash P (.ofString "__doc__"), .str (.ofString "__doc__") 166, .none⟩, ⟨PyData.keyHash P (.ofString "__package__"), .str (.ofString "__package__") 167, .none⟩, ⟨PyData.keyHash P (.ofString "__loader__"), .str (.ofString "__loader__") 168, (.builtin "__main__.__loader__#opaque")⟩, ⟨PyData.keyHash P (.ofString "__spec__"), .str (.ofString "__spec__") 169, .none⟩, ⟨PyData.keyHash P (.ofString "__annotations__"), .str (.ofString "__annotations__") 170, (.ref 6)⟩, ⟨PyData.keyHash P (.ofString "__builtins__"), .str (.ofString "__builtins__") 171, (.ref 4)⟩, ⟨PyData.keyHash P (.ofString "__file__"), .str (.ofString "__file__") 173, (.str (.ofString "/claim/cut.py") 172)⟩, ⟨PyData.keyHash P (.ofString "__cached__"), .str (.ofString "__cached__") 174, .none⟩, ⟨PyData.keyHash P (.ofString "_wall"), .str (.ofString "_wall") 193, (.ref 21)⟩, ⟨PyData.keyHash P (.ofString "MachineFault"), .str (.ofString "MachineFault") 224, (.ref 38)⟩, ⟨PyData.keyHash P (.ofString "FIX"), .str (.ofString "FIX") 228, (.int (0) 227)⟩, ⟨PyData.keyHash P (.ofString "REF"), .str (.ofString "REF") 230, (.int (1) 229)⟩, ⟨PyData.keyHash P (.ofString "CHAR"), .str (.ofString "CHAR") 232, (.int (2) 231)⟩, ⟨PyData.keyHash P (.ofString "SYMBOL"), .str (.ofString "SYMBOL") 234, (.int (3) 233)⟩, ⟨PyData.keyHash P (.ofString "CONSTANT"), .str (.ofString "CONSTANT") 236, (.int (4) 235)⟩, ⟨PyData.keyHash P (.ofString "HEADER"), .str (.ofString "HEADER") 238, (.int (5) 237)⟩, ⟨PyData.keyHash P (.ofString "FORWARD"), .str (.ofString "FORWARD") 240, (.int (6) 239)⟩, ⟨PyData.keyHash P (.ofString "TAGS"), .str (.ofString "TAGS") 242, (.int (8) 241)⟩, ⟨PyData.keyHash P (.ofString "EMPTY_LIST"), .str (.ofString "EMPTY_LIST") 246, (.int (20) 245)⟩, ⟨PyData.keyHash P (.ofString "KINDS"), .str (.ofString "KINDS") 248, (.int (16) 247)⟩, ⟨PyData.keyHash P (.ofString "KIND_SIZES"), .str (.ofString "KIND_SIZES") 260, (.ref 42)⟩, ⟨PyData.keyHash P (.ofString "payload_of"), .str (.ofString "payload_of") 267, (.ref 49)⟩, ⟨PyData.keyHash P (.ofString "fix"), .str (.ofString "fix") 274, (.ref 56)⟩, ⟨PyData.keyHash P (.ofString "ref"), .str (.ofString "ref") 281, (.ref 63)⟩, ⟨PyData.keyHash P (.ofString "char_word"), .str (.ofString "char_word") 288, (.ref 70)⟩, ⟨PyData.keyHash P (.ofString "symbol_word"), .str (.ofString "symbol_word") 295, (.ref 77)⟩, ⟨PyData.keyHash P (.ofString "header_word"), .str (.ofString "header_word") 303, (.ref 84)⟩, ⟨PyData.keyHash P (.ofString "forward_word"), .str (.ofString "forward_word") 310, (.ref 91)⟩, ⟨PyData.keyHash P (.ofString "is_ref"), .str (.ofString "is_ref") 317, (.ref 98)⟩, ⟨PyData.keyHash P (.ofString "is_header"), .str (.ofString "is_header") 324, (.ref 105)⟩, ⟨PyData.keyHash P (.ofString "header_kind"), .str (.ofString "header_kind") 331, (.ref 112)⟩, ⟨PyData.keyHash P (.ofString "header_length"), .str (.ofString "header_length") 338, (.ref 119)⟩, ⟨PyData.keyHash P (.ofString "is_value_word"), .str (.ofString "is_value_word") 346, (.ref 126)⟩, ⟨PyData.keyHash P (.ofString "Heap"), .str (.ofString "Heap") 480, (.ref 227)⟩].toArray 35), #[]⟩
noncomputable def hd.g3_12 : Params → Obj := fun P => ⟨.none, none, (.fields #[(.int (1) 0), (.int (0) 0), (.ref 20), (.int (5) 0), (.int (0) 0), (.ref 27), (.int (21) 0), (.int (0) 0), (.ref 48), (.int (23) 0), (.int (0) 0), (.ref 55), (.int (25) 0), (.int (0) 0), (.ref 62), (.int (27) 0), (.int (0) 0), (.ref 69), (.int (29) 0), (.int (0) 0), (.ref 76), (.int (31) 0), (.int (0) 0), (.ref 83), (.int (33) 0), (.int (0) 0), (.ref 90), (.int (35) 0), (.int (0) 0), (.ref 97), (.int (37) 0), (.int (0) 0), (.ref 104), (.int (39) 0), (.int (0) 0), (.ref 111), (.int (41) 0), (.int (0) 0), (.ref 118), (.int (43) 0), (.int (0) 0), (.ref 125), (.int (47) 0), (.int (0) 0), (.ref 132)]), #[]⟩
noncomputable def hd.tree_g3 : Params → BT := fun P => (.node (boot_o_0 P) (.node (boot_o_1 P) (.node (hd.g3_3 P) (.node (boot_o_7 P) (.node (boot_o_7 P) (.node (hd.o31 P) (.node (hd.o63 P) (.node (boot_o_7 P) .nil .nil) (.node (boot_o_8 P) .nil .nil)) (.node (boot_o_7 P) (.node (hd.o159 P) .nil .nil) (.node (hd.o223 P) .nil .nil))) (.node (hd.o47 P) (.node (boot_o_8 P) (.node (hd.o143 P) .nil .nil) (.node (boot_o_7 P) .nil .nil)) (.node (hd.o111 P) (.node (hd.o175 P) .nil .nil) .nil))) (.node (hd.o23 P) (.node (hd.o39 P) (.node (boot_o_7 P) (.node (boot_o_8 P) .nil .nil) (.node (hd.o199 P) .nil .nil)) (.node (hd.o103 P) (.node (hd.o167 P) .nil .nil) (.node (hd.o231 P) .nil .nil))) (.node (hd.o55 P) (.node (hd.o87 P) (.node (boot_o_7 P) .nil .nil) (.node (hd.o215 P) .nil .nil)) (.node (hd.o119 P) (.node (boot_o_7 P) .nil .nil) .nil)))) (.node (boot_o_7 P) (.node (hd.o19 P) (.node (hd.o35 P) (.node (boot_o_7 P) (.node (hd.o131 P) .nil .nil) (.node (hd.o195 P) .nil .nil)) (.node (boot_o_7 P) (.node (boot_o_8 P) .nil .nil) (.node (hd.o227 P) .nil .nil))) (.node (boot_o_8 P) (.node (hd.o83 P) (.node (hd.o147 P) .nil .nil) (.node (boot_o_7 P) .nil .nil)) (.node (hd.o115 P) (.node (boot_o_7 P) .nil .nil) .nil))) (.node (hd.o27 P) (.node (boot_o_7 P) (.node (hd.o75 P) (.node (hd.o139 P) .nil .nil) (.node (hd.o203 P) .nil .nil)) (.node (boot_o_8 P) (.node (hd.o171 P) .nil .nil) .nil)) (.node (hd.o59 P) (.node (hd.o91 P) (.node (boot_o_7 P) .nil .nil) (.node (boot_o_8 P) .nil .nil)) (.node (boot_o_7 P) (.node (hd.o187 P) .nil .nil) .nil))))) (.node (boot_o_5 P) (.node (boot_o_9 P) (.node (hd.o17 P) (.node (hd.o33 P) (.node (boot_o_8 P) (.node (hd.o129 P) .nil .nil) (.node (boot_o_7 P) .nil .nil)) (.node (hd.o97 P) (.node (hd.o161 P) .nil .nil) (.node (hd.o225 P) .nil .nil))) (.node (hd.o49 P) (.node (boot_o_7 P) (.node (hd.o145 P) .nil .nil) (.node (hd.o209 P) .nil .nil)) (.node (boot_o_7 P) (.node (boot_o_8 P) .nil .nil) .nil))) (.node (boot_o_7 P) (.node (hd.o41 P) (.node (hd.o73 P) (.node (boot_o_7 P) .nil .nil) (.node (hd.o201 P) .nil .nil)) (.node (hd.o105 P) (.node (boot_o_7 P) .nil .nil) .nil)) (.node (boot_o_7 P) (.node (hd.o89 P) (.node (hd.o153 P) .nil .nil) (.node (hd.o217 P) .nil .nil)) (.node (boot_o_8 P) (.node (hd.o185 P) .nil .nil) .nil)))) (.node (hd.o13 P) (.node (hd.o21 P) (.node (hd.o37 P) (.node (hd.o69 P) (.node (hd.o133 P) .nil .nil) (.node (boot_o_7 P) .nil .nil)) (.node (hd.o101 P) (.node (boot_o_7 P) .nil .nil) (.node (hd.o229 P) .nil .nil))) (.node (boot_o_7 P) (.node (boot_o_7 P) (.node (boot_o_8 P) .nil .nil) (.node (hd.o213 P) .nil .nil)) (.node (hd.o117 P) (.node (hd.o181 P) .nil .nil) .nil))) (.node (boot_o_7 P) (.node (hd.o45 P) (.node (hd.o77 P) (.node (boot_o_7 P) .nil .nil) (.node (boot_o_8 P) .nil .nil)) (.node (boot_o_7 P) (.node (hd.o173 P) .nil .nil) .nil)) (.node (hd.o61 P) (.node (boot_o_8 P) (.node (hd.o157 P) .nil .nil) (.node (boot_o_7 P) .nil .nil)) (.node (hd.o125 P) (.node (hd.o189 P) .nil .nil) .nil)))))) (.node (hd.o2 P) (.node (boot_o_4 P) (.node (boot_o_8 P) (.node (boot_o_8 P) (.node (boot_o_7 P) (.node (boot_o_7 P) (.node (hd.o23 P) .nil .nil) (.node (hd.o192 P) .nil .nil)) (.node (hd.o96 P) (.node (hd.o160 P) .nil .nil) (.node (hd.o224 P) .nil .nil))) (.node (hd.o48 P) (.node (hd.o80 P) (.node (boot_o_7 P) .nil .nil) (.node (hd.o208 P) .nil .nil)) (.node (hd.o112 P) (.node (boot_o_7 P) .nil .nil) .nil))) (.node (hd.o24 P) (.node (hd.o40 P) (.node (boot_o_8 P) (.node (hd.o136 P) .nil .nil) (.node (boot_o_7 P) .nil .nil)) (.node (hd.o104 P) (.node (hd.o168 P) .nil .nil) .nil)) (.node (hd.o56 P) (.node (boot_o_7 P) (.node (hd.o152 P) .nil .nil) (.node (hd.o216 P) .nil .nil)) (.node (boot_o_7 P) (.node (boot_o_8 P) .nil .nil) .nil)))) (.node (hd.g3_12 P) (.node (hd.o20 P) (.node (hd.o36 P) (.node (hd.o68 P) (.node (hd.o132 P) .nil .nil) (.node (hd.o196 P) .nil .nil)) (.node (boot_o_8 P) (.node (hd.o164 P) .nil .nil) (.node (hd.o228 P) .nil .nil))) (.node (hd.o52 P) (.node (hd.o84 P) (.node (boot_o_7 P) .nil .nil) (.node (boot_o_8 P) .nil .nil)) (.node (boot_o_7 P) (.node (hd.o180 P) .nil .nil) .nil))) (.node (hd.o28 P) (.node (boot_o_8 P) (.node (hd.o76 P) (.node (hd.o140 P) .nil .nil) (.node (boot_o_7 P) .nil .nil)) (.node (hd.o108 P) (.node (boot_o_7 P) .nil .nil) .nil)) (.node (boot_o_7 P) (.node (boot_o_7 P) (.node (boot_o_8 P) .nil .nil) (.node (hd.o220 P) .nil .nil)) (.node (hd.o124 P) (.node (hd.o188 P) .nil .nil) .nil))))) (.node (boot_o_6 P) (.node (boot_o_10 P) (.node (boot_o_7 P) (.node (hd.o34 P) (.node (hd.o66 P) (.node (boot_o_7 P) .nil .nil) (.node (hd.o194 P) .nil .nil)) (.node (hd.o98 P) (.node (boot_o_7 P) .nil .nil) (.node (hd.o226 P) .nil .nil))) (.node (boot_o_7 P) (.node (hd.o82 P) (.node (hd.o146 P) .nil .nil) (.node (hd.o210 P) .nil .nil)) (.node (boot_o_8 P) (.node (hd.o178 P) .nil .nil) .nil))) (.node (hd.o26 P) (.node (hd.o42 P) (.node (boot_o_7 P) (.node (hd.o138 P) .nil .nil) (.node (hd.o202 P) .nil .nil)) (.node (boot_o_7 P) (.node (boot_o_8 P) .nil .nil) .nil)) (.node (boot_o_8 P) (.node (hd.o90 P) (.node (hd.o154 P) .nil .nil) (.node (boot_o_7 P) .nil .nil)) (.node (hd.o122 P) (.node (boot_o_7 P) .nil .nil) .nil)))) (.node (hd.o14 P) (.node (hd.o22 P) (.node (hd.o38 P) (.node (hd.o70 P) (.node (boot_o_7 P) .nil .nil) (.node (boot_o_8 P) .nil .nil)) (.node (boot_o_7 P) (.node (hd.o166 P) .nil .nil) (.node (hd.o230 P) .nil .nil))) (.node (hd.o54 P) (.node (boot_o_8 P) (.node (hd.o150 P) .nil .nil) (.node (boot_o_7 P) .nil .nil)) (.node (hd.o118 P) (.node (hd.o182 P) .nil .nil) .nil))) (.node (boot_o_8 P) (.node (boot_o_7 P) (.node (boot_o_7 P) (.node (boot_o_8 P) .nil .nil) (.node (hd.o206 P) .nil .nil)) (.node (hd.o110 P) (.node (hd.o174 P) .nil .nil) .nil)) (.node (hd.o62 P) (.node (hd.o94 P) (.node (boot_o_7 P) .nil .nil) (.node (hd.o222 P) .nil .nil)) (.node (hd.o126 P) (.node (boot_o_7 P) .nil .nil) .nil)))))))
noncomputable abbrev hd.s_g3 (w : World) (os : OsState) : SharedT := ⟨hd.tree_g3 w.params, nat_lit 232, {}, Array.mk [], boot_drawn, 481, os⟩
noncomputable def hd.tree_g4 : Params → BT := fun P => (.node (boot_o_0 P) (.node (boot_o_1 P) (.node (hd.o3 P) (.node (boot_o_7 P) (.node (boot_o_7 P) (.node (hd.o31 P) (.node (hd.o63 P) (.node (boot_o_7 P) (.node (hd.o255 P) .nil .nil) .nil) (.node (boot_o_8 P) .nil .nil)) (.node (boot_o_7 P) (.node (hd.o159 P) .nil .nil) (.node (hd.o223 P) .nil .nil))) (.node (hd.o47 P) (.node (boot_o_8 P) (.node (hd.o143 P) (.node (hd.o271 P) .nil .nil) .nil) (.node (boot_o_7 P) .nil .nil)) (.node (hd.o111 P) (.node (hd.o175 P) .nil .nil) (.node (boot_o_7 P) .nil .nil)))) (.node (hd.o23 P) (.node (hd.o39 P) (.node (boot_o_7 P) (.node (boot_o_8 P) (.node (hd.o263 P) .nil .nil) .nil) (.node (hd.o199 P) .nil .nil)) (.node (hd.o103 P) (.node (hd.o167 P) .nil .nil) (.node (hd.o231 P) .nil .nil))) (.node (hd.o55 P) (.node (hd.o87 P) (.node (boot_o_7 P) (.node (boot_o_7 P) .nil .nil) .nil) (.node (hd.o215 P) .nil .nil)) (.node (hd.o119 P) (.node (boot_o_7 P) .nil .nil) (.node (boot_o_8 P) .nil .nil))))) (.node (boot_o_7 P) (.node (hd.o19 P) (.node (hd.o35 P) (.node (boot_o_7 P) (.node (hd.o131 P) (.node (hd.o259 P) .nil .nil) .nil) (.node (hd.o195 P) .nil .nil)) (.node (boot_o_7 P) (.node (boot_o_8 P) .nil .nil) (.node (hd.o227 P) .nil .nil))) (.node (boot_o_8 P) (.node (hd.o83 P) (.node (hd.o147 P) (.node (boot_o_7 P) .nil .nil) .nil) (.node (boot_o_7 P) .nil .nil)) (.node (hd.o115 P) (.node (boot_o_7 P) .nil .nil) (.node (hd.o243 P) .nil .nil)))) (.node (hd.o27 P) (.node (boot_o_7 P) (.node (hd.o75 P) (.node (hd.o139 P) (.node (hd.o267 P) .nil .nil) .nil) (.node (hd.o203 P) .nil .nil)) (.node (boot_o_8 P) (.node (hd.o171 P) .nil .nil) (.node (boot_o_7 P) .nil .nil))) (.node (hd.o59 P) (.node (hd.o91 P) (.node (boot_o_7 P) (.node (hd.o283 P) .nil .nil) .nil) (.node (boot_o_8 P) .nil .nil)) (.node (boot_o_7 P) (.node (hd.o187 P) .nil .nil) (.node (hd.o251 P) .nil .nil)))))) (.node (boot_o_5 P) (.node (boot_o_9 P) (.node (hd.o17 P) (.node (hd.o33 P) (.node (boot_o_8 P) (.node (hd.o129 P) (.node (hd.o257 P) .nil .nil) .nil) (.node (boot_o_7 P) .nil .nil)) (.node (hd.o97 P) (.node (hd.o161 P) .nil .nil) (.node (hd.o225 P) .nil .nil))) (.node (hd.o49 P) (.node (boot_o_7 P) (.node (hd.o145 P) (.node (boot_o_8 P) .nil .nil) .nil) (.node (hd.o209 P) .nil .nil)) (.node (boot_o_7 P) (.node (boot_o_8 P) .nil .nil) (.node (hd.o241 P) .nil .nil)))) (.node (boot_o_7 P) (.node (hd.o41 P) (.node (hd.o73 P) (.node (boot_o_7 P) (.node (boot_o_7 P) .nil .nil) .nil) (.node (hd.o201 P) .nil .nil)) (.node (hd.o105 P) (.node (boot_o_7 P) .nil .nil) (.node (boot_o_8 P) .nil .nil))) (.node (boot_o_7 P) (.node (hd.o89 P) (.node (hd.o153 P) (.node (hd.o281 P) .nil .nil) .nil) (.node (hd.o217 P) .nil .nil)) (.node (boot_o_8 P) (.node (hd.o185 P) .nil .nil) (.node (boot_o_7 P) .nil .nil))))) (.node (hd.o13 P) (.node (hd.o21 P) (.node (hd.o37 P) (.node (hd.o69 P) (.node (hd.o133 P) (.node (boot_o_8 P) .nil .nil) .nil) (.node (boot_o_7 P) .nil .nil)) (.node (hd.o101 P) (.node (boot_o_7 P) .nil .nil) (.node (hd.o229 P) .nil .nil))) (.node (boot_o_7 P) (.node (boot_o_7 P) (.node (boot_o_8 P) (.node (hd.o277 P) .nil .nil) .nil) (.node (hd.o213 P) .nil .nil)) (.node (hd.o117 P) (.node (hd.o181 P) .nil .nil) (.node (hd.o245 P) .nil .nil)))) (.node (boot_o_7 P) (.node (hd.o45 P) (.node (hd.o77 P) (.node (boot_o_7 P) (.node (hd.o269 P) .nil .nil) .nil) (.node (boot_o_8 P) .nil .nil)) (.node (boot_o_7 P) (.node (hd.o173 P) .nil .nil) (.node (hd.o237 P) .nil .nil))) (.node (hd.o61 P) (.node (boot_o_8 P) (.node (hd.o157 P) .nil .nil) (.node (boot_o_7 P) .nil .nil)) (.node (hd.o125 P) (.node (hd.o189 P) .nil .nil) (.node (boot_o_7 P) .nil .nil))))))) (.node (hd.o2 P) (.node (boot_o_4 P) (.node (boot_o_8 P) (.node (boot_o_8 P) (.node (boot_o_7 P) (.node (boot_o_7 P) (.node (hd.o23 P) (.node (boot_o_7 P) .nil .nil) .nil) (.node (hd.o192 P) .nil .nil)) (.node (hd.o96 P) (.node (hd.o160 P) .nil .nil) (.node (hd.o224 P) .nil .nil))) (.node (hd.o48 P) (.node (hd.o80 P) (.node (boot_o_7 P) (.node (boot_o_7 P) .nil .nil) .nil) (.node (hd.o208 P) .nil .nil)) (.node (hd.o112 P) (.node (boot_o_7 P) .nil .nil) (.node (boot_o_8 P) .nil .nil)))) (.node (hd.o24 P) (.node (hd.o40 P) (.node (boot_o_8 P) (.node (hd.o136 P) (.node (hd.o264 P) .nil .nil) .nil) (.node (boot_o_7 P) .nil .nil)) (.node (hd.o104 P) (.node (hd.o168 P) .nil .nil) (.node (boot_o_7 P) .nil .nil))) (.node (hd.o56 P) (.node (boot_o_7 P) (.node (hd.o152 P) (.node (boot_o_8 P) .nil .nil) .nil) (.node (hd.o216 P) .nil .nil)) (.node (boot_o_7 P) (.node (boot_o_8 P) .nil .nil) (.node (hd.o248 P) .nil .nil))))) (.node (hd.o12 P) (.node (hd.o20 P) (.node (hd.o36 P) (.node (hd.o68 P) (.node (hd.o132 P) (.node (boot_o_7 P) .nil .nil) .nil) (.node (hd.o196 P) .nil .nil)) (.node (boot_o_8 P) (.node (hd.o164 P) .nil .nil) (.node (hd.o228 P) .nil .nil))) (.node (hd.o52 P) (.node (hd.o84 P) (.node (boot_o_7 P) (.node (hd.o276 P) .nil .nil) .nil) (.node (boot_o_8 P) .nil .nil)) (.node (boot_o_7 P) (.node (hd.o180 P) .nil .nil) (.node (hd.o244 P) .nil .nil)))) (.node (hd.o28 P) (.node (boot_o_8 P) (.node (hd.o76 P) (.node (hd.o140 P) (.node (boot_o_7 P) .nil .nil) .nil) (.node (boot_o_7 P) .nil .nil)) (.node (hd.o108 P) (.node (boot_o_7 P) .nil .nil) (.node (hd.o236 P) .nil .nil))) (.node (boot_o_7 P) (.node (boot_o_7 P) (.node (boot_o_8 P) .nil .nil) (.node (hd.o220 P) .nil .nil)) (.node (hd.o124 P) (.node (hd.o188 P) .nil .nil) (.node (hd.o252 P) .nil .nil)))))) (.node (boot_o_6 P) (.node (boot_o_10 P) (.node (boot_o_7 P) (.node (hd.o34 P) (.node (hd.o66 P) (.node (boot_o_7 P) (.node (hd.o258 P) .nil .nil) .nil) (.node (hd.o194 P) .nil .nil)) (.node (hd.o98 P) (.node (boot_o_7 P) .nil .nil) (.node (hd.o226 P) .nil .nil))) (.node (boot_o_7 P) (.node (hd.o82 P) (.node (hd.o146 P) (.node (hd.o274 P) .nil .nil) .nil) (.node (hd.o210 P) .nil .nil)) (.node (boot_o_8 P) (.node (hd.o178 P) .nil .nil) (.node (boot_o_7 P) .nil .nil)))) (.node (hd.o26 P) (.node (hd.o42 P) (.node (boot_o_7 P) (.node (hd.o138 P) (.node (boot_o_8 P) .nil .nil) .nil) (.node (hd.o202 P) .nil .nil)) (.node (boot_o_7 P) (.node (boot_o_8 P) .nil .nil) (.node (hd.o234 P) .nil .nil))) (.node (boot_o_8 P) (.node (hd.o90 P) (.node (hd.o154 P) (.node (hd.o282 P) .nil .nil) .nil) (.node (boot_o_7 P) .nil .nil)) (.node (hd.o122 P) (.node (boot_o_7 P) .nil .nil) (.node (hd.o250 P) .nil .nil))))) (.node (hd.o14 P) (.node (hd.o22 P) (.node (hd.o38 P) (.node (hd.o70 P) (.node (boot_o_7 P) (.node (hd.o262 P) .nil .nil) .nil) (.node (boot_o_8 P) .nil .nil)) (.node (boot_o_7 P) (.node (hd.o166 P) .nil .nil) (.node (hd.o230 P) .nil .nil))) (.node (hd.o54 P) (.node (boot_o_8 P) (.node (hd.o150 P) (.node (hd.o278 P) .nil .nil) .nil) (.node (boot_o_7 P) .nil .nil)) (.node (hd.o118 P) (.node (hd.o182 P) .nil .nil) (.node (boot_o_7 P) .nil .nil)))) (.node (boot_o_8 P) (.node (boot_o_7 P) (.node (boot_o_7 P) (.node (boot_o_8 P) (.node (hd.o270 P) .nil .nil) .nil) (.node (hd.o206 P) .nil .nil)) (.node (hd.o110 P) (.node (hd.o174 P) .nil .nil) (.node (hd.o238 P) .nil .nil))) (.node (hd.o62 P) (.node (hd.o94 P) (.node (boot_o_7 P) .nil .nil) (.node (hd.o222 P) .nil .nil)) (.node (hd.o126 P) (.node (boot_o_7 P) .nil .nil) (.node (boot_o_8 P) .nil .nil))))))))
noncomputable abbrev hd.s_g4 (w : World) (os : OsState) : SharedT := ⟨hd.tree_g4 w.params, nat_lit 284, {}, Array.mk [], boot_drawn, 562, os⟩
noncomputable abbrev hd.env : Env := { scope := PySem.Challenge.pw_nt0254_01.main.scope, locals := mainNs, globals := mainNs, cells := [], code := (.ref 13), frame := some 14 }
abbrev hd.q : Pos := ⟨0, 0, 0, 0⟩
abbrev hd.p_a : Pos := ⟨0, 0, 0, 0⟩
abbrev hd.p_b : Pos := ⟨0, 0, 0, 0⟩
abbrev hd.p_g0 : Pos := ⟨15, 0, 15, 6⟩
abbrev hd.p_g1 : Pos := ⟨35, 0, 36, 29⟩
abbrev hd.p_g2 : Pos := ⟨46, 0, 46, 8⟩
abbrev hd.p_g3 : Pos := ⟨47, 0, 94, 16⟩
abbrev hd.p_g4 : Pos := ⟨169, 0, 181, 38⟩
noncomputable def hd.sts_0 : List Stmt :=
  (fun {t0 t1 t2 t3 t4 t5 t6 t7 t8 t9 t10 t11 t12 t13 t14 t15 t16 t17 t18 t19 t20 t21 t22 t23 t24 t25 t26 t27 t28 t29 t30 t31 t32 t33 t34 t35 t36 t37 : Stmt} (_ : PySem.Challenge.pw_nt0254_01.main.body = [t0, t1, t2, t3, t4, t5, t6, t7, t8, t9, t10, t11, t12, t13, t14, t15, t16, t17, t18, t19, t20, t21, t22, t23, t24, t25, t26, t27, t28, t29, t30, t31, t32, t33, t34, t35, t36, t37]) => [t0, t1, t2, t3, t4, t5, t6, t7, t8, t9]) rfl
noncomputable def hd.sts_1 : List Stmt :=
  (fun {t0 t1 t2 t3 t4 t5 t6 t7 t8 t9 t10 t11 t12 t13 t14 t15 t16 t17 t18 t19 t20 t21 t22 t23 t24 t25 t26 t27 t28 t29 t30 t31 t32 t33 t34 t35 t36 t37 : Stmt} (_ : PySem.Challenge.pw_nt0254_01.main.body = [t0, t1, t2, t3, t4, t5, t6, t7, t8, t9, t10, t11, t12, t13, t14, t15, t16, t17, t18, t19, t20, t21, t22, t23, t24, t25, t26, t27, t28, t29, t30, t31, t32, t33, t34, t35, t36, t37]) => [t10, t11, t12, t13, t14, t15, t16, t17, t18, t19, t20, t21, t22]) rfl
noncomputable def hd.sts_2 : List Stmt :=
  (fun {t0 t1 t2 t3 t4 t5 t6 t7 t8 t9 t10 t11 t12 t13 t14 t15 t16 t17 t18 t19 t20 t21 t22 t23 t24 t25 t26 t27 t28 t29 t30 t31 t32 t33 t34 t35 t36 t37 : Stmt} (_ : PySem.Challenge.pw_nt0254_01.main.body = [t0, t1, t2, t3, t4, t5, t6, t7, t8, t9, t10, t11, t12, t13, t14, t15, t16, t17, t18, t19, t20, t21, t22, t23, t24, t25, t26, t27, t28, t29, t30, t31, t32, t33, t34, t35, t36, t37]) => [t23, t24, t25, t26, t27]) rfl
noncomputable def hd.sts_3 : List Stmt :=
  (fun {t0 t1 t2 t3 t4 t5 t6 t7 t8 t9 t10 t11 t12 t13 t14 t15 t16 t17 t18 t19 t20 t21 t22 t23 t24 t25 t26 t27 t28 t29 t30 t31 t32 t33 t34 t35 t36 t37 : Stmt} (_ : PySem.Challenge.pw_nt0254_01.main.body = [t0, t1, t2, t3, t4, t5, t6, t7, t8, t9, t10, t11, t12, t13, t14, t15, t16, t17, t18, t19, t20, t21, t22, t23, t24, t25, t26, t27, t28, t29, t30, t31, t32, t33, t34, t35, t36, t37]) => [t28]) rfl
noncomputable def hd.sts_4 : List Stmt :=
  (fun {t0 t1 t2 t3 t4 t5 t6 t7 t8 t9 t10 t11 t12 t13 t14 t15 t16 t17 t18 t19 t20 t21 t22 t23 t24 t25 t26 t27 t28 t29 t30 t31 t32 t33 t34 t35 t36 t37 : Stmt} (_ : PySem.Challenge.pw_nt0254_01.main.body = [t0, t1, t2, t3, t4, t5, t6, t7, t8, t9, t10, t11, t12, t13, t14, t15, t16, t17, t18, t19, t20, t21, t22, t23, t24, t25, t26, t27, t28, t29, t30, t31, t32, t33, t34, t35, t36, t37]) => [t29, t30, t31, t32, t33, t34, t35, t36, t37]) rfl
-- steps: before 12, block 0, groups #[(0, (10, 329)), (10, (23, 316)), (23, (28, 126)), (28, (29, 613)), (29, (38, 260))], end 1
theorem hd.adr : ∀ P, hd.as = (hd.heap_39 P).map (·.1) := fun _ => by kernel_rfl
noncomputable abbrev hd.at (w : World) (os : OsState) : Shared := ⟨hd.fin w.params, Array.mk [], boot_drawn, 562, os⟩
noncomputable abbrev hd.cE : Code := .body (behindTheImports PySem.Challenge.pw_nt0254_01) hd.env
abbrev hd.B : List Frame := [topFrame hd.q]
theorem hd.r_a (w : World) (os : OsState) : topGo treeTable PySem.Challenge.pw_nt0254_01 w 11 (some (.ref 6)) 12 ⟨boot_heap w.params, Array.mk [], boot_drawn, boot_toks, os⟩ (topStub PySem.Challenge.pw_nt0254_01) =
    some (hd.s_a w os, ⟨denote treeTable hd.cE, hd.cE, hd.p_a, hd.B⟩) := by
  rw [PySem.W.Fast.te15667345088766844465, PySem.W.Fast.te14364793385576792824, PySem.W.Fast.te11892475500146522536]
  kernel_rfl
theorem hd.r_b (w : World) (os : OsState) : segRun treeTable PySem.Challenge.pw_nt0254_01 w 11 (some (.ref 6)) 1 1 (hd.s_a w os) (blockOf (behindTheImports PySem.Challenge.pw_nt0254_01) hd.env hd.cE hd.p_a hd.B) = some (.next, (hd.s_b w os).abs, hd.cE, hd.p_b) := by
  kernel_rfl
theorem hd.r_0 (w : World) (os : OsState) : segRunT treeTable PySem.Challenge.pw_nt0254_01 w 11 (some (.ref 6)) 1 330 (hd.s_b w os) (piecesOf hd.sts_0 hd.env hd.cE hd.p_b hd.B) = some (.next, hd.s_g0 w os, hd.cE, hd.p_g0) := by
  rw [PySem.W.Fast.te10110043849684766642, PySem.W.Fast.te14364793385576792824]
  kernel_rfl
theorem hd.r_1 (w : World) (os : OsState) : segRunT treeTable PySem.Challenge.pw_nt0254_01 w 11 (some (.ref 6)) 1 317 (hd.s_g0 w os) (piecesOf hd.sts_1 hd.env hd.cE hd.p_g0 hd.B) = some (.next, hd.s_g1 w os, hd.cE, hd.p_g1) := by
  rw [PySem.W.Fast.te10110043849684766642, PySem.W.Fast.te14364793385576792824]
  kernel_rfl
theorem hd.r_2 (w : World) (os : OsState) : segRunT treeTable PySem.Challenge.pw_nt0254_01 w 11 (some (.ref 6)) 1 127 (hd.s_g1 w os) (piecesOf hd.sts_2 hd.env hd.cE hd.p_g1 hd.B) = some (.next, hd.s_g2 w os, hd.cE, hd.p_g2) := by
  rw [PySem.W.Fast.te10110043849684766642, PySem.W.Fast.te14364793385576792824]
  kernel_rfl
theorem hd.r_3 (w : World) (os : OsState) : segRunT treeTable PySem.Challenge.pw_nt0254_01 w 11 (some (.ref 6)) 1 614 (hd.s_g2 w os) (piecesOf hd.sts_3 hd.env hd.cE hd.p_g2 hd.B) = some (.next, hd.s_g3 w os, hd.cE, hd.p_g3) := by
  rw [PySem.W.Fast.te10110043849684766642, PySem.W.Fast.te14364793385576792824]
  kernel_rfl
theorem hd.r_4 (w : World) (os : OsState) : segRunT treeTable PySem.Challenge.pw_nt0254_01 w 11 (some (.ref 6)) 1 261 (hd.s_g3 w os) (piecesOf hd.sts_4 hd.env hd.cE hd.p_g3 hd.B) = some (.next, hd.s_g4 w os, hd.cE, hd.p_g4) := by
  rw [PySem.W.Fast.te10110043849684766642, PySem.W.Fast.te14364793385576792824]
  kernel_rfl
theorem hd.r_e (w : World) (os : OsState) : topRun treeTable PySem.Challenge.pw_nt0254_01 w 11 (some (.ref 6)) 2 (hd.s_g4 w os).abs ⟨doneF .next, hd.cE, hd.p_g4, hd.B⟩ = some (hd.at w os) := by
  kernel_rfl
theorem hd.body : behindTheImports PySem.Challenge.pw_nt0254_01 = hd.sts_0 ++ (hd.sts_1 ++ (hd.sts_2 ++ (hd.sts_3 ++ (hd.sts_4 ++ [])))) := by kernel_rfl
theorem hd.run (w : World) (os : OsState) : topRun treeTable PySem.Challenge.pw_nt0254_01 w 11 (some (.ref 6)) (12 + (1 + (330 + (317 + (127 + (614 + (261 + 2))))))) ⟨boot_heap w.params, Array.mk [], boot_drawn, boot_toks, os⟩ (topStub PySem.Challenge.pw_nt0254_01) = some (hd.at w os) := by
  refine go_top (hd.r_a w os) (piece_block (hd.r_b w os) ?_)
  rw [hd.body]
  exact piece_app (segRun_of (hd.r_0 w os)) (piece_app (segRun_of (hd.r_1 w os)) (piece_app (segRun_of (hd.r_2 w os)) (piece_app (segRun_of (hd.r_3 w os)) (piece_app (segRun_of (hd.r_4 w os)) (piece_nil (hd.r_e w os))))))
theorem hd.k1 (w : World) : staticsOk (importedModules PySem.Challenge.pw_nt0254_01.main.body) (boot_heap w.params) (hd.fin w.params) = true := by kernel_rfl
theorem hd.k2 (w : World) : namesBound PySem.Challenge.pw_nt0254_01 (hd.fin w.params) = true := by kernel_rfl
theorem hd.k3 (w : World) (os : OsState) : gensDone (hd.at w os) = true := by kernel_rfl
theorem hd.k4 (w : World) : laidKept (boot_heap w.params) (hd.fin w.params) = true := by kernel_rfl
theorem hd.l1 (w : World) (os : OsState) : seen ((recsOf hd.view_39).map (·.name)) (ownsOf hd.view_39) [] { hd.at w os with gens := #[] } = expectedOf hd.view_39 := by kernel_rfl
theorem hd.l2 (w : World) : (hd.fin w.params).bltView = bltViewBooted := by kernel_rfl
theorem hd.l3a (w : World) : (hd.fin w.params).keysOk (looseW hd.view_39 [Str.ofString "EMPTY_LIST"]) ((recsOf hd.view_39).map (·.name)) ((litsOf hd.view_39).map (·.1)) ((clssOf hd.view_39 (looseW hd.view_39 [Str.ofString "EMPTY_LIST"])).map (·.name)) = true := by kernel_rfl
theorem hd.l3b (w : World) : (hd.fin w.params).accountedOkI (importedModules PySem.Challenge.pw_nt0254_01.main.body) = true := by kernel_rfl
theorem hd.l3c (w : World) : (hd.fin w.params).isNs mainGlobals = true := by kernel_rfl
theorem hd.l3e (w : World) : (hd.fin w.params).isNs builtinsNs = true := by kernel_rfl
theorem hd.l3f (w : World) : tablesOk hd.view_39 (hd.fin w.params) = true := by kernel_rfl
theorem hd.l3d (w : World) (os : OsState) : (xlAt hd.view_39 [(Str.ofString "EMPTY_LIST", WData.int 20)] (hd.at w os) && recOk [] (hd.at w os)) = true := by kernel_rfl
theorem hd.l4 (w : World) (os : OsState) : tabsOk hd.view_39 (hd.at w os) = true := by kernel_rfl
theorem hd.l5 (w : World) (os : OsState) : pinSeenD hd.view_39 (drecsOf hd.view_39) (hd.at w os) = pinGoodD (drecsOf hd.view_39) := by kernel_rfl
theorem hd.l6 (w : World) (os : OsState) : plainSeenE hd.view_39 (looseW hd.view_39 [Str.ofString "EMPTY_LIST"]) (hd.at w os) = plainGoodE hd.view_39 (looseW hd.view_39 [Str.ofString "EMPTY_LIST"]) := by kernel_rfl
theorem hd.l7 (w : World) (os : OsState) : plainSeenD hd.view_39 [Str.ofString "EMPTY_LIST"] (hd.at w os) = plainGoodD hd.view_39 [Str.ofString "EMPTY_LIST"] := by kernel_rfl
theorem hd.l8 (w : World) (os : OsState) : wideSeen hd.view_39 (hd.at w os) = wideGood hd.view_39 := by kernel_rfl
theorem hd.l9 (w : World) (os : OsState) : clsSeenW hd.view_39 [Str.ofString "EMPTY_LIST"] (hd.at w os) = clsGoodW hd.view_39 [Str.ofString "EMPTY_LIST"] := by kernel_rfl
theorem hd.l10 (w : World) (os : OsState) : hd.as.map (hd.at w os).heap.get? = (hd.heap_39 w.params).map fun p => some p.2 := by kernel_rfl
theorem hd.l3 (w : World) (os : OsState) : ((hd.fin w.params).keysOk (looseW hd.view_39 [Str.ofString "EMPTY_LIST"]) ((recsOf hd.view_39).map (·.name)) ((litsOf hd.view_39).map (·.1)) ((clssOf hd.view_39 (looseW hd.view_39 [Str.ofString "EMPTY_LIST"])).map (·.name)) && (hd.fin w.params).accountedOkI (importedModules PySem.Challenge.pw_nt0254_01.main.body) &&
    (hd.fin w.params).isNs mainGlobals && (hd.fin w.params).isNs builtinsNs && tablesOk hd.view_39 (hd.fin w.params) && (xlAt hd.view_39 [(Str.ofString "EMPTY_LIST", WData.int 20)] (hd.at w os) && recOk [] (hd.at w os)) && (if true = true then (hd.at w os).gens.size == 0 else !leftWithCleanup (hd.at w os).gens)) = true := by
  rw [hd.l3a w, hd.l3b w, hd.l3c w, hd.l3e w, hd.l3f w, hd.l3d w os]; rfl
theorem hd.left : LeftO PySem.Challenge.pw_nt0254_01 hd.view_39 [Str.ofString "EMPTY_LIST"] (fun s => xlAt hd.view_39 [(Str.ofString "EMPTY_LIST", WData.int 20)] s && recOk [] s)
    (Hook.obs (kHook hd.heap_39 hd.as hd.adr)) (Hook.val (kHook hd.heap_39 hd.as hd.adr)) 3414 :=
  LeftO.of_pieces (H₀ := boot_heap) (H₁ := hd.fin) (gs₀ := Array.mk []) (gs₁ := Array.mk []) (d₀ := boot_drawn) (d₁ := boot_drawn) (k₀ := boot_toks) (k₁ := 562) (m₀ := 11) (ann := some (.ref 6)) (M := 12 + (1 + (330 + (317 + (127 + (614 + (261 + 2)))))))
    (boot_open (by kernel_rfl) (by decide) (fun _ => by kernel_rfl)) (fun w => by kernel_rfl) hd.run (by decide) (fun w => funext fun os =>
      looks_pair (by rw [hd.k1 w, hd.k2 w, hd.k4 w]; exact hd.k3 w os) (looks_pair (looks_pair (hd.l1 w os) (looks_pair (hd.l2 w) (looks_pair (hd.l3 w os) (looks_pair (hd.l4 w os) (looks_pair (hd.l5 w os) (looks_pair (hd.l6 w os) (looks_pair (hd.l7 w os) (looks_pair (hd.l8 w os) (hd.l9 w os))))))))) (hd.l10 w os)))
theorem hd {d : DefRec} {kwd : List (Str × PySem.Expr)} (hdef : defOf hd.view_39 (Str.ofString "law") = some (d, kwd))
    (hp : PySem.Challenge.rw_nt0254_01.row.prog.theDef PySem.Challenge.rw_nt0254_01.row.name = some (d.params, d.body, d.scope)) (hk : kwWritten? d.params.kwonlyargs d.params.kw_defaults = some kwd)
    (walk : WalkO hd.view_39 [Str.ofString "EMPTY_LIST"] (XL hd.view_39 [(Str.ofString "EMPTY_LIST", WData.int 20)]) (kHook hd.heap_39 hd.as hd.adr).says PySem.Challenge.rw_nt0254_01.row.toRowW d kwd fun f vs => PySem.call f vs) :
    PySem.Challenge.rw_nt0254_01.Holds := by
  w_on
  o_law
  refine PySem.W.holds_open (Xt := fun s => xlAt hd.view_39 [(Str.ofString "EMPTY_LIST", WData.int 20)] s && recOk (RowW.records PySem.Challenge.rw_nt0254_01.row.toRowW) s) hd.left (Hook.of _) (Hook.keeps _) (fun s e => xl_of s (Bool.and_eq_true_iff.mp e).1) XL.keeps hdef hp hk (fun s e => recFacts_of (Bool.and_eq_true_iff.mp e).2) (by rfl) (by assumption) (by decide +kernel) ⟨rfl, rfl, rfl, rfl, rfl, by decide +kernel⟩ ?hw walk
  w_witness2
theorem told : ∀ P, (hd.heap_39 P = hd.heap_39 P) ∧ PySem.Challenge.rw_nt0254_01 = PySem.Challenge.rw_nt0254_01 := by
  k_fill
  intro P
  exact ⟨rfl, rfl⟩
variable {w : World} {mean : ExcName → Option Value} {mg mb : Str → Option Value} {h₀ : Heap} {L : Addr} {m : Str → Option Value} {news : List (Addr × Obj)} {A : Around} {s : Shared} {Q E : Value → Shared → Prop}
/-- nothing is raised -/
abbrev No : Value → Shared → Prop := fun _ _ => False

/-- the written part and the top's facts, at a heap below everything that the call makes -/
structure Bas (w : World) (mean : ExcName → Option Value) (mg mb : Str → Option Value) (b : Heap) : Prop where
  X : (hd.heap_39 w.params).In b
  T : Top hd.view_39 (looseW hd.view_39 [Str.ofString "EMPTY_LIST"]) mean mg mb b

theorem Bas.keeps {w : World} {mean : ExcName → Option Value} {mg mb : Str → Option Value} {b h : Heap} (B : Bas w mean mg mb b) (k : b.StaysIn h) : Bas w mean mg mb h :=
  ⟨B.X.keeps k, B.T.keeps k⟩

/-- all but the addresses ds stays -/
def ExtB (ds : List Addr) (h h' : Heap) : Prop := ∀ b o, b ∉ ds → h.get? b = some o → h'.get? b = some o
theorem ExtB.refl {ds : List Addr} {h : Heap} : ExtB ds h h := fun _ _ _ e => e
theorem ExtB.trans {ds : List Addr} {h h' h'' : Heap} (x : ExtB ds h h') (y : ExtB ds h' h'') : ExtB ds h h'' := fun b o n e => y b o n (x b o n e)
theorem ExtB.mono {ds es : List Addr} {h h' : Heap} (x : ExtB ds h h') (k : ∀ d ∈ ds, d ∈ es) : ExtB es h h' := fun b o n e => x b o (fun q => n (k b q)) e
theorem ExtB.stays {h h' : Heap} (x : ExtB [] h h') : h.StaysIn h' := fun b o e => x b o (fun q => nomatch q) e
theorem ExtB.of_stays {ds : List Addr} {h h' : Heap} (x : h.StaysIn h') : ExtB ds h h' := fun b o _ e => x b o e

theorem fr_ext {h₀ h h' : Heap} {L : Addr} {m : Str → Option Value} {ds : List Addr} (F : Fr h₀ L h m) (x : ExtB ds h h') (k : ∀ d ∈ ds, h₀.get? d = none ∧ d ≠ L) : Fr h₀ L h' m := by
  obtain ⟨⟨o, es, ep, hL, r⟩, kp, ab⟩ := F
  refine ⟨⟨o, es, ep, x _ _ (fun q => (k _ q).2 rfl) hL, r⟩, fun b o e => x b o (fun q => ?_) (kp b o e), ab⟩
  rw [(k _ q).1] at e; cases e
theorem news_ext {h₀ h h' : Heap} {L : Addr} {ds : List Addr} {news : List (Addr × Obj)} (N : News h₀ L h news) (x : ExtB ds h h') (k : ∀ p ∈ news, p.1 ∉ ds) : News h₀ L h' news :=
  fun p hp => ⟨x _ _ (k p hp) (N p hp).1, (N p hp).2⟩
theorem news_sub {h₀ h : Heap} {L : Addr} {news news' : List (Addr × Obj)} (N : News h₀ L h news) (k : ∀ p ∈ news', p ∈ news) : News h₀ L h news' := fun p hp => N p (k p hp)
theorem news_cons {h₀ h : Heap} {L : Addr} {d : Addr} {o : Obj} {news : List (Addr × Obj)} (N : News h₀ L h news) (e : h.get? d = some o) (k : h₀.get? d = none ∧ d ≠ L) : News h₀ L h ((d, o) :: news) := by
  intro p hp
  rcases List.mem_cons.mp hp with rfl | hp
  · exact ⟨e, k.2, k.1⟩
  · exact N p hp

/-- what the end of a def's body owes: the frame still stands; then the caller's want -/
def Lv (g : Heap) (L : Addr) (ds : List Addr) (h₀ : Heap) (Q : Value → Shared → Prop) (v : Value) (s' : Shared) : Prop :=
  ∃ m', Fr g L s'.heap m' ∧ (ExtB ds h₀ s'.heap → Q v s')
theorem Lv.intro {g : Heap} {L : Addr} {ds : List Addr} {h₀ : Heap} {Q : Value → Shared → Prop} {v : Value} {s' : Shared} {m' : Str → Option Value} (F : Fr g L s'.heap m') (k : ExtB ds h₀ s'.heap → Q v s') : Lv g L ds h₀ Q v s' := ⟨m', F, k⟩

/-- room: k more frames may be entered -/
structure Ok (A : Around) (k : Nat) : Prop where
  handled : A.handled = none
  depth : A.depth + k < 1000
  units : A.units + 8 * k < 9900
theorem Ok.deep {A : Around} {k : Nat} {env : Env} (o : Ok A (k + 1)) : Ok (A.deeper env) k :=
  ⟨o.handled, (by have := o.depth; show A.depth + 1 + k < 1000; omega), (by have := o.units; show A.units + 3 + 8 * k < 9900; omega)⟩
theorem Ok.in1 {A : Around} {k : Nat} (o : Ok A (k + 1)) : Ok A.in1 k :=
  ⟨o.handled, (by have := o.depth; show A.depth + k < 1000; omega), (by have := o.units; show A.units + 1 + 8 * k < 9900; omega)⟩
theorem Ok.less {A : Around} {k j : Nat} (o : Ok A k) (h : j ≤ k) : Ok A j := ⟨o.handled, (by have := o.depth; omega), (by have := o.units; omega)⟩
theorem Ok.room {A : Around} {k : Nat} (o : Ok A k) : A.depth < recursionLimit := by have := o.depth; show A.depth < 1000; omega
theorem Ok.line {A : Around} {k : Nat} (o : Ok A k) : A.units < cLine := by have := o.units; show A.units < 9900; omega

/-- entering a plain def of the text: the frame over the caller's whole heap but the hidden objects sub -/
theorem enterR {w : World} {A : Around} {s : Shared} {K : Frag} {mean : ExcName → Option Value} {mg mb : Str → Option Value} {b : Heap} {p : Program} {loose : List Str}
    {f : Addr} {vs : List Value} {name qual : Str} {params : Arguments} {body : List Stmt} {scope : Scope} {dV kV doc pm cdv ct oc : Value} {an od : Option Addr} {osl : Array (Option Value)} {binds : List (Str × Value)} {Q : Value → Shared → Prop} {R : Result → Shared → Prop} {prog : Program}
    (sub : List (Addr × Obj)) (X : K.In b) (T : Top p loose mean mg mb b) (st : b.StaysIn s.heap) (hsub : ∀ q ∈ sub, s.heap.get? q.1 = some q.2) (hb : ∀ q ∈ sub, b.get? q.1 = none)
    (ho : K.lookup f = some ⟨oc, od, .func (fnOf name qual params body scope dV kV doc pm an cdv ct), osl⟩) (hcd : codeIn K cdv qual = true) (hroom : A.depth < recursionLimit)
    (hbind : BindsTo s (fnOf name qual params body scope dV kV doc pm an cdv ct) ⟨vs, []⟩ binds) (hloc : ∀ y ∈ binds, scope.names.lookup y.1 = some .local)
    (hco : scope.isCoroutine = false) (hgen : scope.isGenerator = false) (hk : scope.kind = .function)
    (hcell : ∀ x ∈ scope.names, x.2 ≠ .cell) (hR : ∀ v s', Q v s' → R (.ok (.ret v)) s')
    (h : ∀ g L h₁, Fr g L h₁ (fun y => binds.reverse.lookup y) → News g L h₁ sub → K.In g → Top p loose mean mg mb g → (∀ a o, s.heap.get? a = some o → a < L) → ExtB (sub.map (·.1)) s.heap g →
      wpAny (model prog w) (A.deeper (envOf qual scope L f cdv)) (execs body (envOf qual scope L f cdv))
        (fun fl s' => Lv g L (sub.map (·.1)) s.heap Q (match fl with | .ret v => v | _ => .none) s') No
        { s with heap := h₁, toks := s.toks + binds.length })
    : codeAny (model prog w) A (.call (.ref f) ⟨vs, []⟩) R s := by
  refine codeAny_call_def (fd := fnOf name qual params body scope dV kV doc pm an cdv ct) (body := body) (binds := binds) hroom (st _ _ (X _ _ ho)) rfl (T.nolimit.keeps st) (codeRec_of (X.keeps st) hcd) rfl hbind hcell hloc (fun h₁ hns hk₁ => ?_) hco hgen hk
  have nm : ∀ a o, b.get? a = some o → a ∉ sub.map (·.1) := fun a o e q => by
    obtain ⟨q, hq, rfl⟩ := List.mem_map.mp q
    rw [hb _ hq] at e; cases e
  have sg : b.StaysIn (hideAll s.heap (sub.map (·.1))) := fun a o e => hideAll_get _ (st a o e) (nm a o e)
  have xg : ExtB (sub.map (·.1)) s.heap (hideAll s.heap (sub.map (·.1))) := fun a o n e => hideAll_get _ e n
  have F : Fr (hideAll s.heap (sub.map (·.1))) s.heap.objs.size h₁ (fun y => binds.reverse.lookup y) := ⟨hns, fun a o e => hk₁ a o (of_hideAll _ e), Nat.le_of_eq (hideAll_size _ _)⟩
  refine wpAny_mono (h _ _ h₁ F (fun q hq => ⟨hk₁ _ _ (hsub q hq), Nat.ne_of_lt (Heap.lt_size (hsub q hq)), hideAll_none _ (List.mem_map_of_mem hq)⟩) (X.keeps sg) (T.keeps sg) (fun a o e => Heap.lt_size e) xg) (fun fl s' hl => ?_) fun _ _ x => x.elim
  obtain ⟨m', F', k⟩ := hl
  exact hR _ _ (k fun a o n e => F'.keep a o (xg a o n e))
theorem enter {w : World} {A : Around} {s : Shared} {K : Frag} {mean : ExcName → Option Value} {mg mb : Str → Option Value} {b : Heap} {p : Program} {loose : List Str}
    {f : Addr} {vs : List Value} {name qual : Str} {params : Arguments} {body : List Stmt} {scope : Scope} {dV kV doc pm cdv ct oc : Value} {an od : Option Addr} {osl : Array (Option Value)} {binds : List (Str × Value)} {Q : Value → Shared → Prop} {E : Value → Shared → Prop} {prog : Program}
    (sub : List (Addr × Obj)) (X : K.In b) (T : Top p loose mean mg mb b) (st : b.StaysIn s.heap) (hsub : ∀ q ∈ sub, s.heap.get? q.1 = some q.2) (hb : ∀ q ∈ sub, b.get? q.1 = none)
    (ho : K.lookup f = some ⟨oc, od, .func (fnOf name qual params body scope dV kV doc pm an cdv ct), osl⟩) (hcd : codeIn K cdv qual = true) (hroom : A.depth < recursionLimit)
    (hbind : BindsTo s (fnOf name qual params body scope dV kV doc pm an cdv ct) ⟨vs, []⟩ binds) (hloc : ∀ y ∈ binds, scope.names.lookup y.1 = some .local)
    (hco : scope.isCoroutine = false) (hgen : scope.isGenerator = false) (hk : scope.kind = .function)
    (hcell : ∀ x ∈ scope.names, x.2 ≠ .cell)
    (h : ∀ g L h₁, Fr g L h₁ (fun y => binds.reverse.lookup y) → News g L h₁ sub → K.In g → Top p loose mean mg mb g → (∀ a o, s.heap.get? a = some o → a < L) → ExtB (sub.map (·.1)) s.heap g →
      wpAny (model prog w) (A.deeper (envOf qual scope L f cdv)) (execs body (envOf qual scope L f cdv))
        (fun fl s' => Lv g L (sub.map (·.1)) s.heap Q (match fl with | .ret v => v | _ => .none) s') No
        { s with heap := h₁, toks := s.toks + binds.length })
    : wpAny (model prog w) A (call (.ref f) vs) Q E s :=
  wpAny_call (enterR (Q := Q) sub X T st hsub hb ho hcd hroom hbind hloc hco hgen hk hcell (fun _ _ x => x) h)

theorem giveI {Q : Value → Shared → Prop} {x y : Int} {t : Tok} {s' : Shared} (h : ∀ t, Q (.int x t) s') (e : y = x) : Q (.int y t) s' := e ▸ h t
theorem giveB {Q : Value → Shared → Prop} {x y : Bool} {s' : Shared} (h : Q (.bool x) s') (e : y = x) : Q (.bool y) s' := e ▸ h
theorem nil_out {h₀ : Heap} {L : Addr} : ∀ d ∈ (([] : List (Addr × Obj)).map (·.1)), h₀.get? d = none ∧ d ≠ L := fun _ h => nomatch h
theorem nil_off {news : List (Addr × Obj)} : ∀ p ∈ news, p.1 ∉ (([] : List (Addr × Obj)).map (·.1)) := fun _ _ h => nomatch h
theorem fd8 (n : Int) : n.fdiv 8 = n / 8 := Int.fdiv_eq_ediv_of_nonneg _ (by decide)
theorem fm8 (n : Int) : n.fmod 8 = n % 8 := Int.fmod_eq_emod_of_nonneg _ (by decide)
theorem fd16 (n : Int) : n.fdiv 16 = n / 16 := Int.fdiv_eq_ediv_of_nonneg _ (by decide)
theorem fm16 (n : Int) : n.fmod 16 = n % 16 := Int.fmod_eq_emod_of_nonneg _ (by decide)

/-- an object that the callee made and hands on -/
theorem fresh_of {h g : Heap} {ds : List Addr} {T : Addr} (F : Fr h₀ L h m) (N : News h₀ L h news) (xg : ExtB ds h g) (hT : g.get? T = none) (hn : T ∉ ds) : h₀.get? T = none ∧ T ≠ L ∧ ∀ p ∈ news, p.1 ≠ T := by
  have hs : h.get? T = none := by
    cases e : h.get? T with
    | none => rfl
    | some o => rw [xg T o hn e] at hT; cases hT
  refine ⟨?_, ?_, fun p hp q => ?_⟩
  · cases e : h₀.get? T with
    | none => rfl
    | some o => rw [F.keep T o e] at hs; cases hs
  · rintro rfl
    obtain ⟨o, _, _, e, _⟩ := F.ns
    rw [e] at hs; cases hs
  · have := (N p hp).1; rw [q, hs] at this; cases this

local macro_rules | `(tactic| walk_at "nt eq") => `(tactic| first | rfl | (simp only [fd8, fm8, fd16, fm16, Int.add_zero]; done) | (simp only [fd8, fm8, fd16, fm16, Int.add_zero]; rfl) | (rw [Bool.eq_iff_iff]; (try simp only [fd8, fm8, fd16, fm16, bne_iff_ne, beq_iff_eq, decide_eq_true_eq, Bool.not_eq_true, decide_eq_false_iff_not, ne_eq] at *); omega))
local macro_rules | `(tactic| walk_at "nt ok") => `(tactic| first | assumption | exact Ok.deep (by assumption) | exact Ok.less (by assumption) (by omega) | exact Ok.less (Ok.deep (by assumption)) (by omega))

theorem payload_K (F : Fr h₀ L s.heap m) (N : News h₀ L s.heap news) (X : (hd.heap_39 w.params).In h₀) (T : Top hd.view_39 (looseW hd.view_39 [Str.ofString "EMPTY_LIST"]) mean mg mb h₀) (o : Ok A 1) {n : Int} {tn : Tok}
    (h : ∀ (t : Tok) h' tk', Fr h₀ L h' m → News h₀ L h' news → Q (.int (n / 8) t) { s with heap := h', toks := tk' }) :
    wpAny (model PySem.Challenge.pw_nt0254_01 w) A (call (.ref 49) [.int n tn]) Q E s := by
  obtain ⟨hd0, dp0, fr0, gd0, un0⟩ := A
  obtain rfl : hd0 = none := o.handled
  refine' enter (binds := [(Str.ofString "word", .int n tn)]) [] ?X ?T ?st ?hsub ?hb ?ho ?hcd ?hroom ?hbind ?hloc ?hco ?hgen ?hk ?hcell ?_
  (case X => assumption)
  (case T => assumption)
  (case st => exact Fr.keep (by assumption))
  (case ho => k_is)
  (case hcd => k_is)
  (case hroom => exact Ok.room (by assumption))
  (case hbind => exact BindsTo.of_eq rfl)
  (case hloc => exact locs rfl)
  (case hco => exact rfl)
  (case hgen => exact rfl)
  (case hk => exact rfl)
  (case hcell => decide)
  (case hsub => exact List.forall_mem_nil _)
  (case hb => exact List.forall_mem_nil _)
  intro g L h₁ F' N' KX' T' _ xg
  try dsimp only
  k_steps
  all_goals (refine Lv.intro (by assumption) fun x => ?_; first | refine giveI (fun t => h t _ _ (fr_ext F x nil_out) (news_ext N x nil_off)) ?_ | refine giveB (h 0 _ _ (fr_ext F x nil_out) (news_ext N x nil_off)) ?_)
  all_goals (clear h; walk_at "nt eq")

theorem fix_K (F : Fr h₀ L s.heap m) (N : News h₀ L s.heap news) (X : (hd.heap_39 w.params).In h₀) (T : Top hd.view_39 (looseW hd.view_39 [Str.ofString "EMPTY_LIST"]) mean mg mb h₀) (o : Ok A 1) {n : Int} {tn : Tok}
    (h : ∀ (t : Tok) h' tk', Fr h₀ L h' m → News h₀ L h' news → Q (.int (n * 8) t) { s with heap := h', toks := tk' }) :
    wpAny (model PySem.Challenge.pw_nt0254_01 w) A (call (.ref 56) [.int n tn]) Q E s := by
  obtain ⟨hd0, dp0, fr0, gd0, un0⟩ := A
  obtain rfl : hd0 = none := o.handled
  refine' enter (binds := [(Str.ofString "number", .int n tn)]) [] ?X ?T ?st ?hsub ?hb ?ho ?hcd ?hroom ?hbind ?hloc ?hco ?hgen ?hk ?hcell ?_
  (case X => assumption)
  (case T => assumption)
  (case st => exact Fr.keep (by assumption))
  (case ho => k_is)
  (case hcd => k_is)
  (case hroom => exact Ok.room (by assumption))
  (case hbind => exact BindsTo.of_eq rfl)
  (case hloc => exact locs rfl)
  (case hco => exact rfl)
  (case hgen => exact rfl)
  (case hk => exact rfl)
  (case hcell => decide)
  (case hsub => exact List.forall_mem_nil _)
  (case hb => exact List.forall_mem_nil _)
  intro g L h₁ F' N' KX' T' _ xg
  try dsimp only
  k_steps
  all_goals (refine Lv.intro (by assumption) fun x => ?_; first | refine giveI (fun t => h t _ _ (fr_ext F x nil_out) (news_ext N x nil_off)) ?_ | refine giveB (h 0 _ _ (fr_ext F x nil_out) (news_ext N x nil_off)) ?_)
  all_goals (clear h; walk_at "nt eq")

theorem ref_K (F : Fr h₀ L s.heap m) (N : News h₀ L s.heap news) (X : (hd.heap_39 w.params).In h₀) (T : Top hd.view_39 (looseW hd.view_39 [Str.ofString "EMPTY_LIST"]) mean mg mb h₀) (o : Ok A 1) {n : Int} {tn : Tok}
    (h : ∀ (t : Tok) h' tk', Fr h₀ L h' m → News h₀ L h' news → Q (.int (n * 8 + 1) t) { s with heap := h', toks := tk' }) :
    wpAny (model PySem.Challenge.pw_nt0254_01 w) A (call (.ref 63) [.int n tn]) Q E s := by
  obtain ⟨hd0, dp0, fr0, gd0, un0⟩ := A
  obtain rfl : hd0 = none := o.handled
  refine' enter (binds := [(Str.ofString "address", .int n tn)]) [] ?X ?T ?st ?hsub ?hb ?ho ?hcd ?hroom ?hbind ?hloc ?hco ?hgen ?hk ?hcell ?_
  (case X => assumption)
  (case T => assumption)
  (case st => exact Fr.keep (by assumption))
  (case ho => k_is)
  (case hcd => k_is)
  (case hroom => exact Ok.room (by assumption))
  (case hbind => exact BindsTo.of_eq rfl)
  (case hloc => exact locs rfl)
  (case hco => exact rfl)
  (case hgen => exact rfl)
  (case hk => exact rfl)
  (case hcell => decide)
  (case hsub => exact List.forall_mem_nil _)
  (case hb => exact List.forall_mem_nil _)
  intro g L h₁ F' N' KX' T' _ xg
  try dsimp only
  k_steps
  all_goals (refine Lv.intro (by assumption) fun x => ?_; first | refine giveI (fun t => h t _ _ (fr_ext F x nil_out) (news_ext N x nil_off)) ?_ | refine giveB (h 0 _ _ (fr_ext F x nil_out) (news_ext N x nil_off)) ?_)
  all_goals (clear h; walk_at "nt eq")

theorem char_K (F : Fr h₀ L s.heap m) (N : News h₀ L s.heap news) (X : (hd.heap_39 w.params).In h₀) (T : Top hd.view_39 (looseW hd.view_39 [Str.ofString "EMPTY_LIST"]) mean mg mb h₀) (o : Ok A 1) {n : Int} {tn : Tok}
    (h : ∀ (t : Tok) h' tk', Fr h₀ L h' m → News h₀ L h' news → Q (.int (n * 8 + 2) t) { s with heap := h', toks := tk' }) :
    wpAny (model PySem.Challenge.pw_nt0254_01 w) A (call (.ref 70) [.int n tn]) Q E s := by
  obtain ⟨hd0, dp0, fr0, gd0, un0⟩ := A
  obtain rfl : hd0 = none := o.handled
  refine' enter (binds := [(Str.ofString "code", .int n tn)]) [] ?X ?T ?st ?hsub ?hb ?ho ?hcd ?hroom ?hbind ?hloc ?hco ?hgen ?hk ?hcell ?_
  (case X => assumption)
  (case T => assumption)
  (case st => exact Fr.keep (by assumption))
  (case ho => k_is)
  (case hcd => k_is)
  (case hroom => exact Ok.room (by assumption))
  (case hbind => exact BindsTo.of_eq rfl)
  (case hloc => exact locs rfl)
  (case hco => exact rfl)
  (case hgen => exact rfl)
  (case hk => exact rfl)
  (case hcell => decide)
  (case hsub => exact List.forall_mem_nil _)
  (case hb => exact List.forall_mem_nil _)
  intro g L h₁ F' N' KX' T' _ xg
  try dsimp only
  k_steps
  all_goals (refine Lv.intro (by assumption) fun x => ?_; first | refine giveI (fun t => h t _ _ (fr_ext F x nil_out) (news_ext N x nil_off)) ?_ | refine giveB (h 0 _ _ (fr_ext F x nil_out) (news_ext N x nil_off)) ?_)
  all_goals (clear h; walk_at "nt eq")

theorem symbol_K (F : Fr h₀ L s.heap m) (N : News h₀ L s.heap news) (X : (hd.heap_39 w.params).In h₀) (T : Top hd.view_39 (looseW hd.view_39 [Str.ofString "EMPTY_LIST"]) mean mg mb h₀) (o : Ok A 1) {n : Int} {tn : Tok}
    (h : ∀ (t : Tok) h' tk', Fr h₀ L h' m → News h₀ L h' news → Q (.int (n * 8 + 3) t) { s with heap := h', toks := tk' }) :
    wpAny (model PySem.Challenge.pw_nt0254_01 w) A (call (.ref 77) [.int n tn]) Q E s := by
  obtain ⟨hd0, dp0, fr0, gd0, un0⟩ := A
  obtain rfl : hd0 = none := o.handled
  refine' enter (binds := [(Str.ofString "number", .int n tn)]) [] ?X ?T ?st ?hsub ?hb ?ho ?hcd ?hroom ?hbind ?hloc ?hco ?hgen ?hk ?hcell ?_
  (case X => assumption)
  (case T => assumption)
  (case st => exact Fr.keep (by assumption))
  (case ho => k_is)
  (case hcd => k_is)
  (case hroom => exact Ok.room (by assumption))
  (case hbind => exact BindsTo.of_eq rfl)
  (case hloc => exact locs rfl)
  (case hco => exact rfl)
  (case hgen => exact rfl)
  (case hk => exact rfl)
  (case hcell => decide)
  (case hsub => exact List.forall_mem_nil _)
  (case hb => exact List.forall_mem_nil _)
  intro g L h₁ F' N' KX' T' _ xg
  try dsimp only
  k_steps
  all_goals (refine Lv.intro (by assumption) fun x => ?_; first | refine giveI (fun t => h t _ _ (fr_ext F x nil_out) (news_ext N x nil_off)) ?_ | refine giveB (h 0 _ _ (fr_ext F x nil_out) (news_ext N x nil_off)) ?_)
  all_goals (clear h; walk_at "nt eq")

theorem header_K (F : Fr h₀ L s.heap m) (N : News h₀ L s.heap news) (X : (hd.heap_39 w.params).In h₀) (T : Top hd.view_39 (looseW hd.view_39 [Str.ofString "EMPTY_LIST"]) mean mg mb h₀) (o : Ok A 1) {n k : Int} {tn tk : Tok}
    (h : ∀ (t : Tok) h' tk', Fr h₀ L h' m → News h₀ L h' news → Q (.int ((k * 16 + n) * 8 + 5) t) { s with heap := h', toks := tk' }) :
    wpAny (model PySem.Challenge.pw_nt0254_01 w) A (call (.ref 84) [.int n tn, .int k tk]) Q E s := by
  obtain ⟨hd0, dp0, fr0, gd0, un0⟩ := A
  obtain rfl : hd0 = none := o.handled
  refine' enter (binds := [(Str.ofString "kind", .int n tn), (Str.ofString "length", .int k tk)]) [] ?X ?T ?st ?hsub ?hb ?ho ?hcd ?hroom ?hbind ?hloc ?hco ?hgen ?hk ?hcell ?_
  (case X => assumption)
  (case T => assumption)
  (case st => exact Fr.keep (by assumption))
  (case ho => k_is)
  (case hcd => k_is)
  (case hroom => exact Ok.room (by assumption))
  (case hbind => exact BindsTo.of_eq rfl)
  (case hloc => exact locs rfl)
  (case hco => exact rfl)
  (case hgen => exact rfl)
  (case hk => exact rfl)
  (case hcell => decide)
  (case hsub => exact List.forall_mem_nil _)
  (case hb => exact List.forall_mem_nil _)
  intro g L h₁ F' N' KX' T' _ xg
  try dsimp only
  k_steps
  all_goals (refine Lv.intro (by assumption) fun x => ?_; first | refine giveI (fun t => h t _ _ (fr_ext F x nil_out) (news_ext N x nil_off)) ?_ | refine giveB (h 0 _ _ (fr_ext F x nil_out) (news_ext N x nil_off)) ?_)
  all_goals (clear h; walk_at "nt eq")

theorem forward_K (F : Fr h₀ L s.heap m) (N : News h₀ L s.heap news) (X : (hd.heap_39 w.params).In h₀) (T : Top hd.view_39 (looseW hd.view_39 [Str.ofString "EMPTY_LIST"]) mean mg mb h₀) (o : Ok A 1) {n : Int} {tn : Tok}
    (h : ∀ (t : Tok) h' tk', Fr h₀ L h' m → News h₀ L h' news → Q (.int (n * 8 + 6) t) { s with heap := h', toks := tk' }) :
    wpAny (model PySem.Challenge.pw_nt0254_01 w) A (call (.ref 91) [.int n tn]) Q E s := by
  obtain ⟨hd0, dp0, fr0, gd0, un0⟩ := A
  obtain rfl : hd0 = none := o.handled
  refine' enter (binds := [(Str.ofString "address", .int n tn)]) [] ?X ?T ?st ?hsub ?hb ?ho ?hcd ?hroom ?hbind ?hloc ?hco ?hgen ?hk ?hcell ?_
  (case X => assumption)
  (case T => assumption)
  (case st => exact Fr.keep (by assumption))
  (case ho => k_is)
  (case hcd => k_is)
  (case hroom => exact Ok.room (by assumption))
  (case hbind => exact BindsTo.of_eq rfl)
  (case hloc => exact locs rfl)
  (case hco => exact rfl)
  (case hgen => exact rfl)
  (case hk => exact rfl)
  (case hcell => decide)
  (case hsub => exact List.forall_mem_nil _)
  (case hb => exact List.forall_mem_nil _)
  intro g L h₁ F' N' KX' T' _ xg
  try dsimp only
  k_steps
  all_goals (refine Lv.intro (by assumption) fun x => ?_; first | refine giveI (fun t => h t _ _ (fr_ext F x nil_out) (news_ext N x nil_off)) ?_ | refine giveB (h 0 _ _ (fr_ext F x nil_out) (news_ext N x nil_off)) ?_)
  all_goals (clear h; walk_at "nt eq")

theorem isref_K (F : Fr h₀ L s.heap m) (N : News h₀ L s.heap news) (X : (hd.heap_39 w.params).In h₀) (T : Top hd.view_39 (looseW hd.view_39 [Str.ofString "EMPTY_LIST"]) mean mg mb h₀) (o : Ok A 1) {n : Int} {tn : Tok}
    (h : ∀ (t : Tok) h' tk', Fr h₀ L h' m → News h₀ L h' news → Q (.bool (decide (n % 8 = 1))) { s with heap := h', toks := tk' }) :
    wpAny (model PySem.Challenge.pw_nt0254_01 w) A (call (.ref 98) [.int n tn]) Q E s := by
  obtain ⟨hd0, dp0, fr0, gd0, un0⟩ := A
  obtain rfl : hd0 = none := o.handled
  refine' enter (binds := [(Str.ofString "word", .int n tn)]) [] ?X ?T ?st ?hsub ?hb ?ho ?hcd ?hroom ?hbind ?hloc ?hco ?hgen ?hk ?hcell ?_
  (case X => assumption)
  (case T => assumption)
  (case st => exact Fr.keep (by assumption))
  (case ho => k_is)
  (case hcd => k_is)
  (case hroom => exact Ok.room (by assumption))
  (case hbind => exact BindsTo.of_eq rfl)
  (case hloc => exact locs rfl)
  (case hco => exact rfl)
  (case hgen => exact rfl)
  (case hk => exact rfl)
  (case hcell => decide)
  (case hsub => exact List.forall_mem_nil _)
  (case hb => exact List.forall_mem_nil _)
  intro g L h₁ F' N' KX' T' _ xg
  try dsimp only
  k_steps
  all_goals (refine Lv.intro (by assumption) fun x => ?_; first | refine giveI (fun t => h t _ _ (fr_ext F x nil_out) (news_ext N x nil_off)) ?_ | refine giveB (h 0 _ _ (fr_ext F x nil_out) (news_ext N x nil_off)) ?_)
  all_goals (clear h; walk_at "nt eq")

theorem ishead_K (F : Fr h₀ L s.heap m) (N : News h₀ L s.heap news) (X : (hd.heap_39 w.params).In h₀) (T : Top hd.view_39 (looseW hd.view_39 [Str.ofString "EMPTY_LIST"]) mean mg mb h₀) (o : Ok A 1) {n : Int} {tn : Tok}
    (h : ∀ (t : Tok) h' tk', Fr h₀ L h' m → News h₀ L h' news → Q (.bool (decide (n % 8 = 5))) { s with heap := h', toks := tk' }) :
    wpAny (model PySem.Challenge.pw_nt0254_01 w) A (call (.ref 105) [.int n tn]) Q E s := by
  obtain ⟨hd0, dp0, fr0, gd0, un0⟩ := A
  obtain rfl : hd0 = none := o.handled
  refine' enter (binds := [(Str.ofString "word", .int n tn)]) [] ?X ?T ?st ?hsub ?hb ?ho ?hcd ?hroom ?hbind ?hloc ?hco ?hgen ?hk ?hcell ?_
  (case X => assumption)
  (case T => assumption)
  (case st => exact Fr.keep (by assumption))
  (case ho => k_is)
  (case hcd => k_is)
  (case hroom => exact Ok.room (by assumption))
  (case hbind => exact BindsTo.of_eq rfl)
  (case hloc => exact locs rfl)
  (case hco => exact rfl)
  (case hgen => exact rfl)
  (case hk => exact rfl)
  (case hcell => decide)
  (case hsub => exact List.forall_mem_nil _)
  (case hb => exact List.forall_mem_nil _)
  intro g L h₁ F' N' KX' T' _ xg
  try dsimp only
  k_steps
  all_goals (refine Lv.intro (by assumption) fun x => ?_; first | refine giveI (fun t => h t _ _ (fr_ext F x nil_out) (news_ext N x nil_off)) ?_ | refine giveB (h 0 _ _ (fr_ext F x nil_out) (news_ext N x nil_off)) ?_)
  all_goals (clear h; walk_at "nt eq")

theorem hkind_K (F : Fr h₀ L s.heap m) (N : News h₀ L s.heap news) (X : (hd.heap_39 w.params).In h₀) (T : Top hd.view_39 (looseW hd.view_39 [Str.ofString "EMPTY_LIST"]) mean mg mb h₀) (o : Ok A 1) {n : Int} {tn : Tok}
    (h : ∀ (t : Tok) h' tk', Fr h₀ L h' m → News h₀ L h' news → Q (.int (n / 8 % 16) t) { s with heap := h', toks := tk' }) :
    wpAny (model PySem.Challenge.pw_nt0254_01 w) A (call (.ref 112) [.int n tn]) Q E s := by
  obtain ⟨hd0, dp0, fr0, gd0, un0⟩ := A
  obtain rfl : hd0 = none := o.handled
  refine' enter (binds := [(Str.ofString "header", .int n tn)]) [] ?X ?T ?st ?hsub ?hb ?ho ?hcd ?hroom ?hbind ?hloc ?hco ?hgen ?hk ?hcell ?_
  (case X => assumption)
  (case T => assumption)
  (case st => exact Fr.keep (by assumption))
  (case ho => k_is)
  (case hcd => k_is)
  (case hroom => exact Ok.room (by assumption))
  (case hbind => exact BindsTo.of_eq rfl)
  (case hloc => exact locs rfl)
  (case hco => exact rfl)
  (case hgen => exact rfl)
  (case hk => exact rfl)
  (case hcell => decide)
  (case hsub => exact List.forall_mem_nil _)
  (case hb => exact List.forall_mem_nil _)
  intro g L h₁ F' N' KX' T' _ xg
  try dsimp only
  k_steps
  all_goals (refine Lv.intro (by assumption) fun x => ?_; first | refine giveI (fun t => h t _ _ (fr_ext F x nil_out) (news_ext N x nil_off)) ?_ | refine giveB (h 0 _ _ (fr_ext F x nil_out) (news_ext N x nil_off)) ?_)
  all_goals (clear h; walk_at "nt eq")

theorem hlen_K (F : Fr h₀ L s.heap m) (N : News h₀ L s.heap news) (X : (hd.heap_39 w.params).In h₀) (T : Top hd.view_39 (looseW hd.view_39 [Str.ofString "EMPTY_LIST"]) mean mg mb h₀) (o : Ok A 1) {n : Int} {tn : Tok}
    (h : ∀ (t : Tok) h' tk', Fr h₀ L h' m → News h₀ L h' news → Q (.int (n / 8 / 16) t) { s with heap := h', toks := tk' }) :
    wpAny (model PySem.Challenge.pw_nt0254_01 w) A (call (.ref 119) [.int n tn]) Q E s := by
  obtain ⟨hd0, dp0, fr0, gd0, un0⟩ := A
  obtain rfl : hd0 = none := o.handled
  refine' enter (binds := [(Str.ofString "header", .int n tn)]) [] ?X ?T ?st ?hsub ?hb ?ho ?hcd ?hroom ?hbind ?hloc ?hco ?hgen ?hk ?hcell ?_
  (case X => assumption)
  (case T => assumption)
  (case st => exact Fr.keep (by assumption))
  (case ho => k_is)
  (case hcd => k_is)
  (case hroom => exact Ok.room (by assumption))
  (case hbind => exact BindsTo.of_eq rfl)
  (case hloc => exact locs rfl)
  (case hco => exact rfl)
  (case hgen => exact rfl)
  (case hk => exact rfl)
  (case hcell => decide)
  (case hsub => exact List.forall_mem_nil _)
  (case hb => exact List.forall_mem_nil _)
  intro g L h₁ F' N' KX' T' _ xg
  try dsimp only
  k_steps
  all_goals (refine Lv.intro (by assumption) fun x => ?_; first | refine giveI (fun t => h t _ _ (fr_ext F x nil_out) (news_ext N x nil_off)) ?_ | refine giveB (h 0 _ _ (fr_ext F x nil_out) (news_ext N x nil_off)) ?_)
  all_goals (clear h; walk_at "nt eq")

theorem isval_K (F : Fr h₀ L s.heap m) (N : News h₀ L s.heap news) (X : (hd.heap_39 w.params).In h₀) (T : Top hd.view_39 (looseW hd.view_39 [Str.ofString "EMPTY_LIST"]) mean mg mb h₀) (o : Ok A 1) {n : Int} {tn : Tok}
    (h : ∀ (t : Tok) h' tk', Fr h₀ L h' m → News h₀ L h' news → Q (.bool (decide (n % 8 ≠ 5 ∧ n % 8 ≠ 6))) { s with heap := h', toks := tk' }) :
    wpAny (model PySem.Challenge.pw_nt0254_01 w) A (call (.ref 126) [.int n tn]) Q E s := by
  obtain ⟨hd0, dp0, fr0, gd0, un0⟩ := A
  obtain rfl : hd0 = none := o.handled
  refine' enter (binds := [(Str.ofString "word", .int n tn)]) [] ?X ?T ?st ?hsub ?hb ?ho ?hcd ?hroom ?hbind ?hloc ?hco ?hgen ?hk ?hcell ?_
  (case X => assumption)
  (case T => assumption)
  (case st => exact Fr.keep (by assumption))
  (case ho => k_is)
  (case hcd => k_is)
  (case hroom => exact Ok.room (by assumption))
  (case hbind => exact BindsTo.of_eq rfl)
  (case hloc => exact locs rfl)
  (case hco => exact rfl)
  (case hgen => exact rfl)
  (case hk => exact rfl)
  (case hcell => decide)
  (case hsub => exact List.forall_mem_nil _)
  (case hb => exact List.forall_mem_nil _)
  intro g L h₁ F' N' KX' T' _ xg
  try dsimp only
  k_steps
  all_goals (refine Lv.intro (by assumption) fun x => ?_; first | refine giveI (fun t => h t _ _ (fr_ext F x nil_out) (news_ext N x nil_off)) ?_ | refine giveB (h 0 _ _ (fr_ext F x nil_out) (news_ext N x nil_off)) ?_)
  all_goals (clear h; walk_at "nt eq")

local macro_rules | `(tactic| walk_at "call ref") => `(tactic| (k_here; (with_reducible show wpAny _ _ (call (Value.ref 49) [Value.int _ _]) _ _ _); refine' payload_K ?k1 ?k2 ?k3 ?k4 ?k5 ?_; (case k1 => k_asm); (case k2 => k_asm); (case k3 => k_asm); (case k4 => k_asm); (case k5 => walk_at "nt ok"); k_whole; intro t' h' tk' F' N'; (try k_sweep); (try dsimp only)))
local macro_rules | `(tactic| walk_at "call ref") => `(tactic| (k_here; (with_reducible show wpAny _ _ (call (Value.ref 56) [Value.int _ _]) _ _ _); refine' fix_K ?k1 ?k2 ?k3 ?k4 ?k5 ?_; (case k1 => k_asm); (case k2 => k_asm); (case k3 => k_asm); (case k4 => k_asm); (case k5 => walk_at "nt ok"); k_whole; intro t' h' tk' F' N'; (try k_sweep); (try dsimp only)))
local macro_rules | `(tactic| walk_at "call ref") => `(tactic| (k_here; (with_reducible show wpAny _ _ (call (Value.ref 63) [Value.int _ _]) _ _ _); refine' ref_K ?k1 ?k2 ?k3 ?k4 ?k5 ?_; (case k1 => k_asm); (case k2 => k_asm); (case k3 => k_asm); (case k4 => k_asm); (case k5 => walk_at "nt ok"); k_whole; intro t' h' tk' F' N'; (try k_sweep); (try dsimp only)))
local macro_rules | `(tactic| walk_at "call ref") => `(tactic| (k_here; (with_reducible show wpAny _ _ (call (Value.ref 70) [Value.int _ _]) _ _ _); refine' char_K ?k1 ?k2 ?k3 ?k4 ?k5 ?_; (case k1 => k_asm); (case k2 => k_asm); (case k3 => k_asm); (case k4 => k_asm); (case k5 => walk_at "nt ok"); k_whole; intro t' h' tk' F' N'; (try k_sweep); (try dsimp only)))
local macro_rules | `(tactic| walk_at "call ref") => `(tactic| (k_here; (with_reducible show wpAny _ _ (call (Value.ref 77) [Value.int _ _]) _ _ _); refine' symbol_K ?k1 ?k2 ?k3 ?k4 ?k5 ?_; (case k1 => k_asm); (case k2 => k_asm); (case k3 => k_asm); (case k4 => k_asm); (case k5 => walk_at "nt ok"); k_whole; intro t' h' tk' F' N'; (try k_sweep); (try dsimp only)))
local macro_rules | `(tactic| walk_at "call ref") => `(tactic| (k_here; (with_reducible show wpAny _ _ (call (Value.ref 84) [Value.int _ _, Value.int _ _]) _ _ _); refine' header_K ?k1 ?k2 ?k3 ?k4 ?k5 ?_; (case k1 => k_asm); (case k2 => k_asm); (case k3 => k_asm); (case k4 => k_asm); (case k5 => walk_at "nt ok"); k_whole; intro t' h' tk' F' N'; (try k_sweep); (try dsimp only)))
local macro_rules | `(tactic| walk_at "call ref") => `(tactic| (k_here; (with_reducible show wpAny _ _ (call (Value.ref 91) [Value.int _ _]) _ _ _); refine' forward_K ?k1 ?k2 ?k3 ?k4 ?k5 ?_; (case k1 => k_asm); (case k2 => k_asm); (case k3 => k_asm); (case k4 => k_asm); (case k5 => walk_at "nt ok"); k_whole; intro t' h' tk' F' N'; (try k_sweep); (try dsimp only)))
local macro_rules | `(tactic| walk_at "call ref") => `(tactic| (k_here; (with_reducible show wpAny _ _ (call (Value.ref 98) [Value.int _ _]) _ _ _); refine' isref_K ?k1 ?k2 ?k3 ?k4 ?k5 ?_; (case k1 => k_asm); (case k2 => k_asm); (case k3 => k_asm); (case k4 => k_asm); (case k5 => walk_at "nt ok"); k_whole; intro t' h' tk' F' N'; (try k_sweep); (try dsimp only)))
local macro_rules | `(tactic| walk_at "call ref") => `(tactic| (k_here; (with_reducible show wpAny _ _ (call (Value.ref 105) [Value.int _ _]) _ _ _); refine' ishead_K ?k1 ?k2 ?k3 ?k4 ?k5 ?_; (case k1 => k_asm); (case k2 => k_asm); (case k3 => k_asm); (case k4 => k_asm); (case k5 => walk_at "nt ok"); k_whole; intro t' h' tk' F' N'; (try k_sweep); (try dsimp only)))
local macro_rules | `(tactic| walk_at "call ref") => `(tactic| (k_here; (with_reducible show wpAny _ _ (call (Value.ref 112) [Value.int _ _]) _ _ _); refine' hkind_K ?k1 ?k2 ?k3 ?k4 ?k5 ?_; (case k1 => k_asm); (case k2 => k_asm); (case k3 => k_asm); (case k4 => k_asm); (case k5 => walk_at "nt ok"); k_whole; intro t' h' tk' F' N'; (try k_sweep); (try dsimp only)))
local macro_rules | `(tactic| walk_at "call ref") => `(tactic| (k_here; (with_reducible show wpAny _ _ (call (Value.ref 119) [Value.int _ _]) _ _ _); refine' hlen_K ?k1 ?k2 ?k3 ?k4 ?k5 ?_; (case k1 => k_asm); (case k2 => k_asm); (case k3 => k_asm); (case k4 => k_asm); (case k5 => walk_at "nt ok"); k_whole; intro t' h' tk' F' N'; (try k_sweep); (try dsimp only)))
local macro_rules | `(tactic| walk_at "call ref") => `(tactic| (k_here; (with_reducible show wpAny _ _ (call (Value.ref 126) [Value.int _ _]) _ _ _); refine' isval_K ?k1 ?k2 ?k3 ?k4 ?k5 ?_; (case k1 => k_asm); (case k2 => k_asm); (case k3 => k_asm); (case k4 => k_asm); (case k5 => walk_at "nt ok"); k_whole; intro t' h' tk' F' N'; (try k_sweep); (try dsimp only)))

/-- the deck: the list that the draws count in -/
abbrev deckO (di : Addr) (c : Int) (tc : Tok) (n : Nat) : Obj := listOf #[.ref di, .int c tc] n

theorem updF_mem {d : Addr} {o : Obj} {news : List (Addr × Obj)} {g : Obj → List (Addr × Obj)} (U : UpdF d o news g) : (d, o) ∈ news := by
  obtain ⟨pre, post, a, _⟩ := U.split
  rw [a]; simp
theorem updF_out {d : Addr} {o o' : Obj} {g : Obj → List (Addr × Obj)} {h h' : Heap} (U : UpdF d o news g) (N : News h₀ L h news) (e1 : h'.get? d = some o')
    (k : ∀ p ∈ news, p.1 ≠ d → h'.get? p.1 = some p.2) : News h₀ L h' (g o') := by
  obtain ⟨pre, post, a, b, c1, c2⟩ := U.split
  rw [b o']
  subst a
  intro p hp
  rcases List.mem_append.mp hp with q | q
  · exact ⟨k p (List.mem_append_left _ q) (c1 p q), (N p (List.mem_append_left _ q)).2⟩
  · rcases List.mem_cons.mp q with rfl | q
    · exact ⟨e1, (N (d, o) (by simp)).2⟩
    · exact ⟨k p (List.mem_append_right _ (.tail _ q)) (c2 p q), (N p (List.mem_append_right _ (.tail _ q))).2⟩
/-- what stays of a ledger where the hidden objects (o2s, all in the ledger) come back as they were -/
theorem same_back {ds : List Addr} {h h' : Heap} {own : List (Addr × Obj)} (N : News h₀ L h news) (x : ExtB ds h h') (ho : ∀ p ∈ own, p ∈ news) (back : ∀ p ∈ own, h'.get? p.1 = some p.2) {a : Addr}
    (hds : ∀ b ∈ ds, b ≠ a → ∃ p ∈ own, p.1 = b) : ∀ p ∈ news, p.1 ≠ a → h'.get? p.1 = some p.2 := by
  intro p hp hne
  by_cases hd : p.1 ∈ ds
  · obtain ⟨q, hq, e⟩ := hds _ hd hne
    have h1 := (N p hp).1
    have h2 := (N q (ho q hq)).1
    rw [e, h1] at h2
    have h3 := back q hq
    rw [e] at h3
    rw [h3]; exact h2.symm
  · exact x _ _ hd (N p hp).1
theorem out_of {ds : List Addr} {h : Heap} (N : News h₀ L h news) (k : ∀ d ∈ ds, ∃ o, (d, o) ∈ news) : ∀ d ∈ ds, h₀.get? d = none ∧ d ≠ L := fun d hd => by
  obtain ⟨o, ho⟩ := k d hd
  exact ⟨(N _ ho).2.2, (N _ ho).2.1⟩
/-- the ledger behind a call that turned the deck alone: own is what else it was handed -/
theorem deck_back {d : Addr} {od od' : Obj} {g : Obj → List (Addr × Obj)} {h h' : Heap} {own : List (Addr × Obj)} (F : Fr h₀ L h m) (N : News h₀ L h news) (U : UpdF d od news g) (ho : ∀ p ∈ own, p ∈ news)
    (x : ExtB (d :: own.map (·.1)) h h') (e1 : h'.get? d = some od') (back : ∀ p ∈ own, h'.get? p.1 = some p.2) : Fr h₀ L h' m ∧ News h₀ L h' (g od') := by
  refine ⟨fr_ext F x (out_of N fun b hb => ?_), updF_out U N e1 (same_back N x ho back fun b hb hne => ?_)⟩
  · rcases List.mem_cons.mp hb with rfl | hb
    · exact ⟨_, updF_mem U⟩
    · obtain ⟨p, hp, rfl⟩ := List.mem_map.mp hb
      exact ⟨p.2, ho p hp⟩
  · rcases List.mem_cons.mp hb with rfl | hb
    · exact absurd rfl hne
    · obtain ⟨p, hp, rfl⟩ := List.mem_map.mp hb
      exact ⟨p, hp, rfl⟩
theorem fmod_in {n k : Int} (hk : 0 < k) : 0 ≤ n.fmod k ∧ n.fmod k < k := ⟨Int.fmod_nonneg_of_pos _ hk, Int.fmod_lt_of_pos _ hk⟩

theorem draw_K {d di : Addr} {c many : Int} {tc tm : Tok} {nd ni : Nat} {vs : List Value} {ns : List Int} {g : Obj → List (Addr × Obj)}
    (F : Fr h₀ L s.heap m) (N : News h₀ L s.heap news) (X : (hd.heap_39 w.params).In h₀) (T : Top hd.view_39 (looseW hd.view_39 [Str.ofString "EMPTY_LIST"]) mean mg mb h₀) (o : Ok A 1)
    (U : UpdF d (deckO di c tc nd) news g) (hi : (di, listOf vs.toArray ni) ∈ news) (hv : IntsAre vs ns) (hp : ∀ x ∈ ns, 0 ≤ x) (hl : ns.length ≤ 63) (hc : 0 ≤ c) (hc' : c ≤ 100000) (hm : 0 < many) (hm' : many ≤ 100) (hne : @LT.lt Nat _ di d)
    (h : ∀ (r : Int) (tr tc' : Tok) h' tk', 0 ≤ r → r < many → Fr h₀ L h' m → News h₀ L h' (g (deckO di (c + 1) tc' nd)) → Q (.int r tr) { s with heap := h', toks := tk' }) :
    wpAny (model PySem.Challenge.pw_nt0254_01 w) A (call (.ref 252) [.ref d, .int many tm]) Q E s := by
  obtain ⟨hd0, dp0, fr0, gd0, un0⟩ := A
  obtain rfl : hd0 = none := o.handled
  refine' enter (binds := [(Str.ofString "deck", .ref d), (Str.ofString "many", .int many tm)]) [(d, deckO di c tc nd), (di, listOf vs.toArray ni)] ?X ?T ?st ?hsub ?hb ?ho ?hcd ?hroom ?hbind ?hloc ?hco ?hgen ?hk ?hcell ?_
  (case X => assumption)
  (case T => assumption)
  (case st => exact Fr.keep (by assumption))
  (case ho => k_is)
  (case hcd => k_is)
  (case hroom => exact Ok.room (by assumption))
  (case hbind => exact BindsTo.of_eq rfl)
  (case hloc => exact locs rfl)
  (case hco => exact rfl)
  (case hgen => exact rfl)
  (case hk => exact rfl)
  (case hcell => decide)
  (case hsub => exact List.forall_mem_cons.mpr ⟨(N _ (updF_mem U)).1, List.forall_mem_cons.mpr ⟨(N _ hi).1, List.forall_mem_nil _⟩⟩)
  (case hb => exact List.forall_mem_cons.mpr ⟨(N _ (updF_mem U)).2.2, List.forall_mem_cons.mpr ⟨(N _ hi).2.2, List.forall_mem_nil _⟩⟩)
  intro g L h₁ F' N' KX' T' lt xg
  try dsimp only
  k_steps
  all_goals (try dsimp only)
  all_goals (
    rename News _ _ _ _ => Nz
    refine Lv.intro (by assumption) fun x => ?_
    obtain ⟨F2, N2⟩ := deck_back (own := [(di, listOf vs.toArray ni)]) F N U (List.forall_mem_cons.mpr ⟨hi, List.forall_mem_nil _⟩) x (Nz.get (.head _)) (fun p hp => Nz.get (.tail _ hp))
    exact h _ _ _ _ _ (fmod_in hm).1 (fmod_in hm).2 F2 N2)

local macro_rules | `(tactic| walk_at "call ref") => `(tactic| (k_here; (with_reducible show wpAny _ _ (call (Value.ref 252) [Value.ref _, Value.int _ _]) _ _ _); refine' draw_K ?F ?N ?X ?T ?o ?U ?hi ?hv ?hp ?hl ?hc ?hcb ?hm ?hmb ?hne ?_; (case F => k_asm); (case N => k_asm); (case X => k_asm); (case T => k_asm); (case o => walk_at "nt ok"); (case U => k_updF); (case hi => k_mem); (case hv => assumption); (case hp => assumption); (case hl => assumption); (case hc => omega); (case hcb => omega); (case hm => omega); (case hmb => omega); (case hne => (refine ltN ?_; omega)); k_whole; intro r' t1' t2' h' tk' hr1' hr2' F' N'; (try dsimp only at N'); (try k_sweep); (try dsimp only)))

/-- a word that may stand in a block: no header, no forward, a reference to a start alone -/
def GoodWord (zs : List Int) (x : Int) : Prop := x % 8 ≠ 5 ∧ x % 8 ≠ 6 ∧ (x % 8 = 1 → x / 8 ∈ zs)

theorem goodWord_ref {zs : List Int} {r : Int} (h0 : 0 ≤ r) (h1 : r < (zs.length : Int)) : GoodWord zs (zs.getD r.toNat 0 * 8 + 1) := by
  have hlt : r.toNat < zs.length := by omega
  have e : zs.getD r.toNat 0 = zs[r.toNat] := by simp [List.getD, hlt]
  refine ⟨by omega, by omega, fun _ => ?_⟩
  rw [show (zs.getD r.toNat 0 * 8 + 1) / 8 = zs.getD r.toNat 0 by omega, e]
  exact List.getElem_mem hlt
theorem goodWord_menu {zs : List Int} {r k : Int} (h0 : 0 ≤ k) (h1 : k < 7) (h2 : ¬ 3 < k) : GoodWord zs ([(r - 45) * 8, (65 + r) * 8 + 2, r * 8 + 3, 20].getD k.toNat 0) := by
  have hk : k = 0 ∨ k = 1 ∨ k = 2 ∨ k = 3 := by omega
  rcases hk with rfl | rfl | rfl | rfl
  · show GoodWord zs ((r - 45) * 8); exact ⟨by omega, by omega, fun _ => by omega⟩
  · show GoodWord zs ((65 + r) * 8 + 2); exact ⟨by omega, by omega, fun _ => by omega⟩
  · show GoodWord zs (r * 8 + 3); exact ⟨by omega, by omega, fun _ => by omega⟩
  · show GoodWord zs 20; exact ⟨by decide, by decide, fun h => absurd h (by decide)⟩

theorem word_K {d di st : Addr} {c : Int} {tc : Tok} {nd ni nst : Nat} {vs ss : List Value} {ns zs : List Int} {g : Obj → List (Addr × Obj)}
    (F : Fr h₀ L s.heap m) (N : News h₀ L s.heap news) (X : (hd.heap_39 w.params).In h₀) (T : Top hd.view_39 (looseW hd.view_39 [Str.ofString "EMPTY_LIST"]) mean mg mb h₀) (o : Ok A 2)
    (U : UpdF d (deckO di c tc nd) news g) (hi : (di, listOf vs.toArray ni) ∈ news) (hs : (st, listOf ss.toArray nst) ∈ news) (hv : IntsAre vs ns) (hz : IntsAre ss zs) (hp : ∀ x ∈ ns, 0 ≤ x) (hl : ns.length ≤ 63) (hz1 : 0 < zs.length) (hz2 : zs.length ≤ 100)
    (hc : 0 ≤ c) (hc' : c ≤ 99990) (hne : @LT.lt Nat _ di d) (hne2 : @Ne Nat d st)
    (h : ∀ (r : Int) (tr tc' : Tok) h' tk', GoodWord zs r → Fr h₀ L h' m → News h₀ L h' (g (deckO di (c + 2) tc' nd)) → Q (.int r tr) { s with heap := h', toks := tk' }) :
    wpAny (model PySem.Challenge.pw_nt0254_01 w) A (call (.ref 259) [.ref d, .ref st]) Q E s := by
  obtain ⟨hd0, dp0, fr0, gd0, un0⟩ := A
  obtain rfl : hd0 = none := o.handled
  refine' enter (binds := [(Str.ofString "deck", .ref d), (Str.ofString "starts", .ref st)]) [(d, deckO di c tc nd), (di, listOf vs.toArray ni), (st, listOf ss.toArray nst)] ?X ?T ?st ?hsub ?hb ?ho ?hcd ?hroom ?hbind ?hloc ?hco ?hgen ?hk ?hcell ?_
  (case X => assumption)
  (case T => assumption)
  (case st => exact Fr.keep (by assumption))
  (case ho => k_is)
  (case hcd => k_is)
  (case hroom => exact Ok.room (by assumption))
  (case hbind => exact BindsTo.of_eq rfl)
  (case hloc => exact locs rfl)
  (case hco => exact rfl)
  (case hgen => exact rfl)
  (case hk => exact rfl)
  (case hcell => decide)
  (case hsub => exact List.forall_mem_cons.mpr ⟨(N _ (updF_mem U)).1, List.forall_mem_cons.mpr ⟨(N _ hi).1, List.forall_mem_cons.mpr ⟨(N _ hs).1, List.forall_mem_nil _⟩⟩⟩)
  (case hb => exact List.forall_mem_cons.mpr ⟨(N _ (updF_mem U)).2.2, List.forall_mem_cons.mpr ⟨(N _ hi).2.2, List.forall_mem_cons.mpr ⟨(N _ hs).2.2, List.forall_mem_nil _⟩⟩⟩)
  intro g L h₁ F' N' KX' T' lt xg
  try dsimp only
  k_steps
  all_goals (try dsimp only)
  all_goals (
    rename News _ _ _ _ => Nz
    refine Lv.intro (by assumption) fun x => ?_
    obtain ⟨F2, N2⟩ := deck_back (own := [(di, listOf vs.toArray ni), (st, listOf ss.toArray nst)]) F N U (List.forall_mem_cons.mpr ⟨hi, List.forall_mem_cons.mpr ⟨hs, List.forall_mem_nil _⟩⟩) x (Nz.get (by k_mem)) (List.forall_mem_cons.mpr ⟨Nz.get (by k_mem), List.forall_mem_cons.mpr ⟨Nz.get (by k_mem), List.forall_mem_nil _⟩⟩)
    rw [show c + 1 + 1 = c + 2 by omega] at N2
    refine h _ _ _ _ _ ?_ F2 N2
    first | exact goodWord_ref (by assumption) (by assumption) | exact goodWord_menu (by assumption) (by assumption) (by omega))


/-- an iterator at I of n turns: V what the i-th hands on, P what its object is before the i-th, St what it asks of the heap -/
structure Iter (w : World) (A : Around) (I : Addr) (n : Nat) (P : Nat → Obj → Prop) (V : Nat → Value → Prop) (St : Heap → Prop) : Prop where
  item : ∀ i (s : Shared) oI (Q : Option Value → Shared → Prop) E, i < n → s.heap.get? I = some oI → P i oI → St s.heap →
    (∀ v h' tk' oI', V i v → h'.get? I = some oI' → P (i + 1) oI' → Heap.SameBut I s.heap h' → Q (some v) { s with heap := h', toks := tk' }) → wpAny (model PySem.Challenge.pw_nt0254_01 w) A (pyNext (.ref I)) Q E s
  done : ∀ (s : Shared) oI (Q : Option Value → Shared → Prop) E, s.heap.get? I = some oI → P n oI → St s.heap →
    (∀ h', Heap.ExtBut I s.heap h' → Q none { s with heap := h' }) → wpAny (model PySem.Challenge.pw_nt0254_01 w) A (pyNext (.ref I)) Q E s

theorem small1 {a b : Int} (ha : -1000000 ≤ a) (ha' : a ≤ 1000000) (hb : -1000000 ≤ b) (hb' : b ≤ 1000000) : Builtin.Range.small a b 1 = true := by
  unfold Builtin.Range.small Builtin.Range.rangeSize Builtin.Range.rangeFitsLong
  simp only [Int.ediv_one, Bool.and_eq_true, Bool.or_eq_true, decide_eq_true_eq, gt_iff_lt, Int.zero_lt_one, if_true, beq_iff_eq]
  refine ⟨⟨⟨⟨⟨by omega, by omega⟩, by omega, by omega⟩, by decide⟩, ?_⟩, .inr ⟨by omega, by omega⟩⟩
  split <;> constructor <;> omega
theorem size1 (a b : Int) : Builtin.Range.rangeSize a b 1 = ((b - a).toNat : Int) := by
  unfold Builtin.Range.rangeSize
  simp only [Int.ediv_one, gt_iff_lt, Int.zero_lt_one, if_true]
  split <;> omega

abbrev rangeIt (x left : Int) : Obj := { cls := .type "range_iterator", dict := none, data := .fields #[rawInt x, rawInt left, rawInt 1], slots := #[] }
theorem iter_rangeI (hh : A.handled = none) {I : Addr} {a : Int} {n : Nat} : Iter w A I n (fun i o => o = rangeIt (a + (i : Nat)) ((n : Int) - (i : Nat))) (fun i v => ∃ t, v = .int (a + (i : Nat)) t) (fun _ => True) where
  item := fun i s oI Q E hi e hP _ h => by
    subst hP
    refine wpAny_pyNext_range_item e (by omega) fun h' hit hs => ?_
    refine h _ h' _ _ ⟨_, rfl⟩ hit ?_ hs
    rw [show a + ((i + 1 : Nat) : Int) = a + (i : Int) + 1 by omega, show (n : Int) - ((i + 1 : Nat) : Int) = (n : Int) - (i : Int) - 1 by omega]
  done := fun s oI Q E e hP _ h => by
    subst hP
    exact wpAny_pyNext_range_end hh e (by omega) h
theorem iter_listI (hh : A.handled = none) {I l : Addr} {vs : List Value} : Iter w A I vs.length (fun i o => o.cls = .type "list_iterator" ∧ o.data = .fields #[.ref l, .int (i : Nat) 0]) (fun i v => vs[i]? = some v) (fun h => h.IsList l vs.toArray) where
  item := fun i s oI Q E hi e hP hSt h => by
    obtain ⟨v, hv⟩ : ∃ v, vs[i]? = some v := ⟨vs[i], by simp [hi]⟩
    refine wpAny_pyNext_list_item ⟨oI, e, hP⟩ hSt (by simpa using hv) fun h' hit hs => ?_
    obtain ⟨o', e', hP'⟩ := hit
    exact h v h' _ o' hv e' hP' hs
  done := fun s oI Q E e hP hSt h => wpAny_pyNext_list_end hh ⟨oI, e, hP⟩ hSt (by simp) h
theorem iter_dictI (hh : A.handled = none) {I d : Addr} {kvs : List (Int × Value)} {ep : Nat} : Iter w A I kvs.length (fun i o => KdkIter o d i kvs.length ep) (fun i v => ∃ k x t, kvs[i]? = some (k, x) ∧ v = .int k t) (fun h => h.DictAt (intKind PySem.Challenge.pw_nt0254_01 w) d kvs ep) where
  item := fun i s oI Q E hi e hP hSt h => by
    obtain ⟨k, x, hv⟩ : ∃ k x, kvs[i]? = some (k, x) := ⟨kvs[i].1, kvs[i].2, by simp [hi]⟩
    refine wpAny_pyNext_dict_item (hP.at e) hSt hv fun key h' hk hit hs => ?_
    obtain ⟨o', e', hP'⟩ := hit
    obtain ⟨t, ht⟩ := PySem.Value.isInt_shape hk
    exact h key h' _ o' ⟨k, x, t, hv, ht⟩ e' hP' hs
  done := fun s oI Q E e hP hSt h => wpAny_pyNext_dict_end hh (hP.at e) hSt (by simp) h

/-- the step between an item and its storing does nothing -/
def LetGo (w : World) (A : Around) (target : Expr) (I : Addr) (P : Nat → Obj → Prop) : Prop :=
  ∀ i v (s : Shared) oI (Q : Unit → Shared → Prop) (E : Value → Shared → Prop), P i oI → s.heap.get? I = some oI → Q () s → wpAny (model PySem.Challenge.pw_nt0254_01 w) A (letOwnedTupleGo target (.ref I) v) Q E s
theorem letGo_pure {target : Expr} {I : Addr} {P : Nat → Obj → Prop} (h : ∀ v, letOwnedTupleGo target (.ref I) v = pure ()) : LetGo w A target I P :=
  fun _ v _ _ _ _ _ _ hq => wpAny_of_eq (h v) hq
theorem letGo_list {target : Expr} {I l : Addr} : LetGo w A target I (fun i o => o.cls = .type "list_iterator" ∧ o.data = .fields #[.ref l, .int (i : Nat) 0]) := by
  intro i v s oI Q E hP e hq
  obtain ⟨oc, od, odat, osl⟩ := oI
  obtain ⟨h1, h2⟩ := hP
  dsimp only at h1 h2
  subst h1 h2
  have go : wpAny (model PySem.Challenge.pw_nt0254_01 w) A (load I >>= fun o => match o.cls, o.data with
      | .type n, .fields vs => if (["enumerate", "zip", "dict_itemiterator", "dict_reverseitemiterator", "odict_iterator", "itertools.zip_longest", "itertools.pairwise"].contains n && vs[0]? == some (rawInt 0)) = true then pure () else pure ()
      | _, _ => pure ()) Q E s := wpAny_bind (wpAny_load e (by dsimp only; split <;> exact wpAny_pure hq))
  have key : ∀ a : Addr, wpAny (model PySem.Challenge.pw_nt0254_01 w) A (load I >>= fun o => match o.cls, o.data with
      | .type n, .fields vs => if (["enumerate", "zip", "dict_itemiterator", "dict_reverseitemiterator", "odict_iterator", "itertools.zip_longest", "itertools.pairwise"].contains n && vs[0]? == some (rawInt a)) = true then (rule "for.unpacks-the-owned-tuple" >>= fun _ => updateField I 0 .none) else pure ()
      | _, _ => pure ()) Q E s := fun a => by
    refine wpAny_bind (wpAny_load e ?_)
    dsimp only
    rw [if_neg (by
      have : (["enumerate", "zip", "dict_itemiterator", "dict_reverseitemiterator", "odict_iterator", "itertools.zip_longest", "itertools.pairwise"] : List String).contains "list_iterator" = false := by decide
      rw [this, Bool.false_and]; exact Bool.false_ne_true)]
    exact wpAny_pure hq
  unfold letOwnedTupleGo
  split
  · cases v <;> first | exact key _ | exact wpAny_pure hq
  · cases v <;> first | exact key _ | exact wpAny_pure hq
  · exact wpAny_pure hq

/-- what a turn of a for owes -/
def TP (h₀ : Heap) (L I : Addr) (oI : Obj) (Jn : (Str → Option Value) → List (Addr × Obj) → Prop) (s : Shared) (Q : Flow → Shared → Prop) (f : Flow) (s' : Shared) : Prop :=
  match f with
  | .ret v => Q (.ret v) s'
  | .brk => Q .next s'
  | _ => ∃ h' tk' m' nws', s' = { s with heap := h', toks := tk' } ∧ Fr h₀ L h' m' ∧ News h₀ L h' ((I, oI) :: nws') ∧ (∀ p ∈ nws', p.1 ≠ I) ∧ Jn m' nws'
theorem TP.intro {I : Addr} {oI : Obj} {Jn : (Str → Option Value) → List (Addr × Obj) → Prop} {Q : Flow → Shared → Prop} {h' : Heap} {tk' : Nat} {m' : Str → Option Value} {all : List (Addr × Obj)} (nws' : List (Addr × Obj))
    (F : Fr h₀ L h' m') (N : News h₀ L h' all) (sub : ∀ p ∈ (I, oI) :: nws', p ∈ all) (off : ∀ p ∈ nws', p.1 ≠ I) (hJ : Jn m' nws') : TP h₀ L I oI Jn s Q .next { s with heap := h', toks := tk' } :=
  ⟨h', tk', m', nws', rfl, F, fun p hp => N p (sub p hp), off, hJ⟩

theorem for_it {I : Addr} {n : Nat} {P : Nat → Obj → Prop} {V : Nat → Value → Prop} {St : Heap → Prop} (It : Iter w A I n P V St) {env : Env} {target : Expr} {body : List Stmt} {oI : Obj} (hP : P 0 oI) {Q : Flow → Shared → Prop} {R : Result → Shared → Prop}
    (hLe : env.locals = L) (F : Fr h₀ L s.heap m) (N : News h₀ L s.heap ((I, oI) :: news)) (hoff : ∀ p ∈ news, p.1 ≠ I)
    (J : Nat → (Str → Option Value) → List (Addr × Obj) → Prop) (h0 : J 0 m news)
    (hSt : ∀ i m' nws h, J i m' nws → Fr h₀ L h m' → News h₀ L h nws → St h)
    (ht : LetGo w A target I P)
    (hR : ∀ f s', Q f s' → R (.ok f) s')
    (turn : ∀ i v m₁ nws h tk oI, i < n → V i v → P (i + 1) oI → J i m₁ nws → (∀ p ∈ nws, p.1 ≠ I) → Fr h₀ L h m₁ → News h₀ L h ((I, oI) :: nws) →
      wpAny (model PySem.Challenge.pw_nt0254_01 w) A (assign target env v) (fun _ s₂ => wpAny (model PySem.Challenge.pw_nt0254_01 w) A (execs body env) (TP h₀ L I oI (J (i + 1)) { s with heap := h, toks := tk } Q) No s₂) No { s with heap := h, toks := tk })
    (done : ∀ m' nws h tk, J n m' nws → (∀ p ∈ nws, p.1 ≠ I) → Fr h₀ L h m' → News h₀ L h nws → Q .next { s with heap := h, toks := tk }) :
    codeAny (model PySem.Challenge.pw_nt0254_01 w) A (.forLoop target (.ref I) body [] env) R s := by
  subst hLe
  refine codeAny_forLoop_any (fun k s' => ∃ h' tk m' nws i oI', s' = { s with heap := h', toks := tk } ∧ P i oI' ∧ Fr h₀ env.locals h' m' ∧ News h₀ env.locals h' ((I, oI') :: nws) ∧ (∀ p ∈ nws, p.1 ≠ I) ∧ J i m' nws ∧ i ≤ n ∧ k = n + 1 - i) ?_ (n + 1)
    ⟨s.heap, s.toks, m, news, 0, oI, rfl, hP, F, N, hoff, h0, Nat.zero_le _, rfl⟩
  rintro k s' ⟨h', tk, m', nws, i, oI', rfl, hP', F', N', hoff', hJ, hi, rfl⟩
  have NI := N' (I, oI') (.head _)
  have Nn : News h₀ env.locals h' nws := fun p hp => N' p (.tail _ hp)
  have hs := hSt i m' nws h' hJ F' Nn
  by_cases hlt : i < n
  · refine It.item i _ oI' _ _ hlt NI.1 hP' hs fun v h₁ tk₁ oI₁ hV e₁ hP₁ hb => ?_
    have F₁ : Fr h₀ env.locals h₁ m' := F'.change hb NI.2.1 NI.2.2
    have N₁ : News h₀ env.locals h₁ ((I, oI₁) :: nws) := by
      intro p hp
      rcases List.mem_cons.mp hp with rfl | hp
      · exact ⟨e₁, NI.2⟩
      · exact ⟨(hb.2 _ (hoff' p hp)).trans (Nn p hp).1, (Nn p hp).2⟩
    refine ht (i + 1) v _ oI₁ _ _ hP₁ e₁ (wpAny_mono (turn i v m' nws h₁ tk₁ oI₁ hlt hV hP₁ hJ hoff' F₁ N₁) (fun _ s₂ h₂ => wpAny_mono h₂ (fun f s₃ h₃ => ?_) fun _ _ e => e.elim) fun _ _ e => e.elim)
    have fin : (∃ h₄ tk₄ m₄ nws₄, s₃ = { { s with heap := h₁, toks := tk₁ } with heap := h₄, toks := tk₄ } ∧ Fr h₀ env.locals h₄ m₄ ∧ News h₀ env.locals h₄ ((I, oI₁) :: nws₄) ∧ (∀ p ∈ nws₄, p.1 ≠ I) ∧ J (i + 1) m₄ nws₄) →
        ∃ k', k' < n + 1 - i ∧ ∃ h' tk m' nws i oI', s₃ = { s with heap := h', toks := tk } ∧ P i oI' ∧ Fr h₀ env.locals h' m' ∧ News h₀ env.locals h' ((I, oI') :: nws) ∧ (∀ p ∈ nws, p.1 ≠ I) ∧ J i m' nws ∧ i ≤ n ∧ k' = n + 1 - i := by
      rintro ⟨h₄, tk₄, m₄, nws₄, rfl, F₄, N₄, off₄, J₄⟩
      exact ⟨n + 1 - (i + 1), by omega, h₄, tk₄, m₄, nws₄, i + 1, oI₁, rfl, hP₁, F₄, N₄, off₄, J₄, hlt, rfl⟩
    cases f with
    | next => exact fin h₃
    | cont => exact fin h₃
    | brk => exact hR _ _ h₃
    | ret v => exact hR _ _ h₃
  · have hin : i = n := by omega
    subst hin
    refine It.done _ oI' _ _ NI.1 hP' hs fun h₁ hb => wpAny_execs_nil (hR _ _ ?_)
    refine done m' nws h₁ tk hJ hoff' ⟨F'.ns.extBut hb (Ne.symm NI.2.1), fun b o e => hb b o (fun q => ?_) (F'.keep b o e), F'.above⟩ (fun p hp => ⟨hb _ _ (hoff' p hp) (Nn p hp).1, (Nn p hp).2⟩)
    rw [q, NI.2.2] at e; cases e

/-- a for statement over what an expression gives, in one piece: the iterator is new, above all that stood -/
theorem For_K {env : Env} {target iter : Expr} {body : List Stmt} {pos : Pos} {Q : Flow → Shared → Prop}
    (h : wpAny (model PySem.Challenge.pw_nt0254_01 w) A (eval iter env) (fun x s₁ => wpAny (model PySem.Challenge.pw_nt0254_01 w) A (pyIter x) (fun it s₂ => codeAny (model PySem.Challenge.pw_nt0254_01 w) A (.forLoop target it body [] env) (fun r s' => match r with | .ok f => Q f s' | .error e => cameBackBy (model PySem.Challenge.pw_nt0254_01 w) A env E e s') s₂) E s₁) E s)
    (hs : ∀ x, foldedSetIterable iter env x = pure x) :
    wpAny (model PySem.Challenge.pw_nt0254_01 w) A (exec (.For target iter body [] pos) env) Q E s := wpAny_For h hs

theorem pyIter_rangeK {r : Addr} {a b : Int} {t u v : Tok} {Q : Value → Shared → Prop} (hh : A.handled = none) (F : Fr h₀ L s.heap m) (N : News h₀ L s.heap news) (hr : IsRange s.heap r a b 1 t u v) (hsm : Builtin.Range.small a b 1 = true)
    (h : ∀ I oI h', Iter w A I (b - a).toNat (fun i o => o = rangeIt (a + (i : Nat)) (((b - a).toNat : Int) - (i : Nat))) (fun i v => ∃ t, v = .int (a + (i : Nat)) t) (fun _ => True) → oI = rangeIt (a + ((0 : Nat) : Int)) (((b - a).toNat : Int) - ((0 : Nat) : Int)) →
      Fr h₀ L h' m → News h₀ L h' ((I, oI) :: news) → (∀ p ∈ news, p.1 < I) → Q (.ref I) { s with heap := h' }) :
    wpAny (model PySem.Challenge.pw_nt0254_01 w) A (pyIter (.ref r)) Q E s := by
  refine wpAny_pyIter_range hr hsm ?_
  rw [size1]
  refine h _ _ _ (iter_rangeI hh) (by simp) (F.push _) (N.push F _ rfl) fun p hp => Heap.lt_size (N p hp).1
theorem pyIter_listK {l : Addr} {vs : List Value} {Q : Value → Shared → Prop} (hh : A.handled = none) (F : Fr h₀ L s.heap m) (N : News h₀ L s.heap news) (hl : s.heap.IsList l vs.toArray)
    (h : ∀ I oI h', Iter w A I vs.length (fun i o => o.cls = .type "list_iterator" ∧ o.data = .fields #[.ref l, .int (i : Nat) 0]) (fun i v => vs[i]? = some v) (fun h => h.IsList l vs.toArray) → (oI.cls = .type "list_iterator" ∧ oI.data = .fields #[.ref l, .int ((0 : Nat) : Int) 0]) →
      Fr h₀ L h' m → News h₀ L h' ((I, oI) :: news) → (∀ p ∈ news, p.1 < I) → Q (.ref I) { s with heap := h' }) :
    wpAny (model PySem.Challenge.pw_nt0254_01 w) A (pyIter (.ref l)) Q E s := by
  refine wpAny_pyIter_list hl ?_
  exact h _ _ _ (iter_listI hh) ⟨rfl, rfl⟩ (F.push _) (N.push F _ rfl) fun p hp => Heap.lt_size (N p hp).1
theorem pyIter_dictK {d : Addr} {kvs : List (Int × Value)} {ep : Nat} {Q : Value → Shared → Prop} (hh : A.handled = none) (F : Fr h₀ L s.heap m) (N : News h₀ L s.heap news) (hd : (d == sysModules) = false) (hm : s.heap.DictAt (intKind PySem.Challenge.pw_nt0254_01 w) d kvs ep)
    (h : ∀ I oI h', Iter w A I kvs.length (fun i o => KdkIter o d i kvs.length ep) (fun i v => ∃ k x t, kvs[i]? = some (k, x) ∧ v = .int k t) (fun h => h.DictAt (intKind PySem.Challenge.pw_nt0254_01 w) d kvs ep) → KdkIter oI d 0 kvs.length ep →
      Fr h₀ L h' m → News h₀ L h' ((I, oI) :: news) → (∀ p ∈ news, p.1 < I) → Q (.ref I) { s with heap := h' }) :
    wpAny (model PySem.Challenge.pw_nt0254_01 w) A (pyIter (.ref d)) Q E s := by
  refine wpAny_pyIter_dict hd hm ?_
  exact h _ _ _ (iter_dictI hh) ⟨rfl, rfl⟩ (F.push _) (N.push F _ rfl) fun p hp => Heap.lt_size (N p hp).1

/-- the two maps agree off the names -/
def Same (xs : List Str) (m m' : Str → Option Value) : Prop := ∀ y, xs.contains y = false → m' y = m y
theorem Same.form {xs : List Str} {m m' : Str → Option Value} (h : Same xs m m') : m' = fun y => if xs.contains y then m' y else m y := by
  funext y
  cases e : xs.contains y with
  | true => simp
  | false => simp only [Bool.false_eq_true, if_false]; exact h y e

def TPs (h₀ : Heap) (L I : Addr) (oI : Obj) (xs : List Str) (m : Str → Option Value) (Dn : List (Addr × Obj) → Prop) (s : Shared) (Q : Flow → Shared → Prop) (f : Flow) (s' : Shared) : Prop :=
  match f with
  | .ret v => Q (.ret v) s'
  | .brk => Q .next s'
  | _ => ∃ h' tk' m' nws', s' = { s with heap := h', toks := tk' } ∧ Fr h₀ L h' m' ∧ News h₀ L h' ((I, oI) :: nws') ∧ (∀ p ∈ nws', p.1 ≠ I) ∧ Same xs m m' ∧ Dn nws'

theorem for_sm {I : Addr} {n : Nat} {P : Nat → Obj → Prop} {V : Nat → Value → Prop} {St : Heap → Prop} {env : Env} {target : Expr} {body : List Stmt} {oI : Obj} {Q : Flow → Shared → Prop} {R : Result → Shared → Prop}
    (xs : List Str) (D : Nat → List (Addr × Obj) → Prop) (It : Iter w A I n P V St) (hP : P 0 oI) (hLe : env.locals = L) (F : Fr h₀ L s.heap m) (N : News h₀ L s.heap ((I, oI) :: news)) (hoff : ∀ p ∈ news, p.1 < I)
    (h0 : D 0 news) (hSt : ∀ i nws h, D i nws → h₀.StaysIn h → News h₀ L h nws → St h) (ht : LetGo w A target I P) (hR : ∀ f s', Q f s' → R (.ok f) s')
    (turn : ∀ i v (u : Str → Option Value) nws h tk oI, i < n → V i v → P (i + 1) oI → D i nws → (∀ p ∈ nws, p.1 ≠ I) → Fr h₀ L h (fun y => if xs.contains y then u y else m y) → News h₀ L h ((I, oI) :: nws) →
      wpAny (model PySem.Challenge.pw_nt0254_01 w) A (assign target env v) (fun _ s₂ => wpAny (model PySem.Challenge.pw_nt0254_01 w) A (execs body env) (TPs h₀ L I oI xs m (D (i + 1)) { s with heap := h, toks := tk } Q) No s₂) No { s with heap := h, toks := tk })
    (done : ∀ (u : Str → Option Value) nws h tk, D n nws → (∀ p ∈ nws, p.1 ≠ I) → Fr h₀ L h (fun y => if xs.contains y then u y else m y) → News h₀ L h nws → Q .next { s with heap := h, toks := tk }) :
    codeAny (model PySem.Challenge.pw_nt0254_01 w) A (.forLoop target (.ref I) body [] env) R s := by
  refine for_it It hP hLe F N (fun p hp => Nat.ne_of_lt (hoff p hp)) (fun i m' nws => Same xs m m' ∧ D i nws) ⟨fun _ _ => rfl, h0⟩ (fun i m' nws h hJ F' N' => hSt i nws h hJ.2 F'.keep N') ht hR ?_ ?_
  · intro i v m₁ nws h tk oI' hi hV hP' hJ off F' N'
    rw [hJ.1.form] at F'
    refine wpAny_mono (turn i v m₁ nws h tk oI' hi hV hP' hJ.2 off F' N') (fun _ s₂ h₂ => wpAny_mono h₂ (fun f s₃ h₃ => ?_) fun _ _ e => e) fun _ _ e => e
    cases f with
    | next => obtain ⟨h', tk', m', nws', e, F2, N2, o2, S2, D2⟩ := h₃; exact ⟨h', tk', m', nws', e, F2, N2, o2, S2, D2⟩
    | cont => obtain ⟨h', tk', m', nws', e, F2, N2, o2, S2, D2⟩ := h₃; exact ⟨h', tk', m', nws', e, F2, N2, o2, S2, D2⟩
    | brk => exact h₃
    | ret v => exact h₃
  · intro m' nws h tk hJ off F' N'
    rw [hJ.1.form] at F'
    exact done m' nws h tk hJ.2 off F' N'

/-- a turn's end where nothing is kept of what the turn made -/
def TPr (h₀ : Heap) (L I : Addr) (oI : Obj) (xs : List Str) (m : Str → Option Value) (news : List (Addr × Obj)) (Dn : Prop) (s : Shared) (Q : Flow → Shared → Prop) (f : Flow) (s' : Shared) : Prop :=
  match f with
  | .ret v => Q (.ret v) s'
  | .brk => Q .next s'
  | _ => ∃ h' tk' m', s' = { s with heap := h', toks := tk' } ∧ Fr h₀ L h' m' ∧ News h₀ L h' ((I, oI) :: news) ∧ Same xs m m' ∧ Dn
theorem TPr.intro {I : Addr} {oI : Obj} {xs : List Str} {Dn : Prop} {Q : Flow → Shared → Prop} {h' : Heap} {tk' : Nat} {m' : Str → Option Value} {all : List (Addr × Obj)}
    (F : Fr h₀ L h' m') (N : News h₀ L h' all) (sub : ∀ p ∈ (I, oI) :: news, p ∈ all) (hs : Same xs m m') (hD : Dn) : TPr h₀ L I oI xs m news Dn s Q .next { s with heap := h', toks := tk' } :=
  ⟨h', tk', m', rfl, F, fun p hp => N p (sub p hp), hs, hD⟩
theorem TPs.intro {I : Addr} {oI : Obj} {xs : List Str} {Dn : List (Addr × Obj) → Prop} {Q : Flow → Shared → Prop} {h' : Heap} {tk' : Nat} {m' : Str → Option Value} {all : List (Addr × Obj)} (nws' : List (Addr × Obj))
    (F : Fr h₀ L h' m') (N : News h₀ L h' all) (sub : ∀ p ∈ (I, oI) :: nws', p ∈ all) (off : ∀ p ∈ nws', p.1 ≠ I) (hs : Same xs m m') (hD : Dn nws') : TPs h₀ L I oI xs m Dn s Q .next { s with heap := h', toks := tk' } :=
  ⟨h', tk', m', nws', rfl, F, fun p hp => N p (sub p hp), off, hs, hD⟩

theorem for_ro {I : Addr} {n : Nat} {P : Nat → Obj → Prop} {V : Nat → Value → Prop} {St : Heap → Prop} {env : Env} {target : Expr} {body : List Stmt} {oI : Obj} {Q : Flow → Shared → Prop} {R : Result → Shared → Prop}
    (xs : List Str) (D : Nat → Prop) (It : Iter w A I n P V St) (hP : P 0 oI) (hLe : env.locals = L) (F : Fr h₀ L s.heap m) (N : News h₀ L s.heap ((I, oI) :: news)) (hoff : ∀ p ∈ news, p.1 < I)
    (h0 : D 0) (hSt : ∀ h, h₀.StaysIn h → News h₀ L h news → St h) (ht : LetGo w A target I P) (hR : ∀ f s', Q f s' → R (.ok f) s')
    (turn : ∀ i v (u : Str → Option Value) h tk oI, i < n → V i v → D i → Fr h₀ L h (fun y => if xs.contains y then u y else m y) → News h₀ L h ((I, oI) :: news) →
      wpAny (model PySem.Challenge.pw_nt0254_01 w) A (assign target env v) (fun _ s₂ => wpAny (model PySem.Challenge.pw_nt0254_01 w) A (execs body env) (TPr h₀ L I oI xs m news (D (i + 1)) { s with heap := h, toks := tk } Q) No s₂) No { s with heap := h, toks := tk })
    (done : ∀ (u : Str → Option Value) h tk, D n → Fr h₀ L h (fun y => if xs.contains y then u y else m y) → News h₀ L h news → Q .next { s with heap := h, toks := tk }) :
    codeAny (model PySem.Challenge.pw_nt0254_01 w) A (.forLoop target (.ref I) body [] env) R s := by
  refine for_sm xs (fun i nws => nws = news ∧ D i) It hP hLe F N hoff ⟨rfl, h0⟩ (fun i nws h hD k N' => hSt h k (hD.1 ▸ N')) ht hR ?_ ?_
  · rintro i v u nws h tk oI' hi hV hP' ⟨rfl, hD⟩ off F' N'
    refine wpAny_mono (turn i v u h tk oI' hi hV hD F' N') (fun _ s₂ h₂ => wpAny_mono h₂ (fun f s₃ h₃ => ?_) fun _ _ e => e) fun _ _ e => e
    cases f with
    | next => obtain ⟨h', tk', m', e, F2, N2, S2, D2⟩ := h₃; exact ⟨h', tk', m', nws, e, F2, N2, off, S2, rfl, D2⟩
    | cont => obtain ⟨h', tk', m', e, F2, N2, S2, D2⟩ := h₃; exact ⟨h', tk', m', nws, e, F2, N2, off, S2, rfl, D2⟩
    | brk => exact h₃
    | ret v => exact h₃
  · rintro u nws h tk ⟨rfl, hD⟩ off F' N'
    exact done u h tk hD F' N'

/-- here the walk halts -/
def Halt (P : Prop) : Prop := P
theorem Halt.mk {P : Prop} (h : Halt P) : P := h

/-- what a turn of a while owes: one name is stored, the ledger may turn -/
def WPs (h₀ : Heap) (L : Addr) (x : Str) (m : Str → Option Value) (D : Nat → Value → List (Addr × Obj) → Prop) (k : Nat) (s : Shared) (Q : Flow → Shared → Prop) (f : Flow) (s' : Shared) : Prop :=
  match f with
  | .ret v => Q (.ret v) s'
  | .brk => Q .next s'
  | _ => ∃ h' tk' m' v' nws' k', s' = { s with heap := h', toks := tk' } ∧ Fr h₀ L h' m' ∧ News h₀ L h' nws' ∧ k' < k ∧ m' x = some v' ∧ (∀ y, y ≠ x → m' y = m y) ∧ D k' v' nws'
theorem WPs.intro {x : Str} {D : Nat → Value → List (Addr × Obj) → Prop} {k : Nat} {Q : Flow → Shared → Prop} {h' : Heap} {tk' : Nat} {m' : Str → Option Value} {v' : Value} {all : List (Addr × Obj)} (k' : Nat) (nws' : List (Addr × Obj))
    (F : Fr h₀ L h' m') (N : News h₀ L h' all) (sub : ∀ p ∈ nws', p ∈ all) (hk : k' < k) (hx : m' x = some v') (hm : ∀ y, y ≠ x → m' y = m y) (hD : D k' v' nws') : WPs h₀ L x m D k s Q .next { s with heap := h', toks := tk' } :=
  ⟨h', tk', m', v', nws', k', rfl, F, fun p hp => N p (sub p hp), hk, hx, hm, hD⟩
theorem while_sm {env : Env} {test : Expr} {body : List Stmt} {pos : Pos} {Q : Flow → Shared → Prop} (x : Str) (D : Nat → Value → List (Addr × Obj) → Prop) (k₀ : Nat) {v₀ : Value} (F : Fr h₀ L s.heap m) (N : News h₀ L s.heap news) (hx : m x = some v₀) (h0 : D k₀ v₀ news)
    (turn : ∀ k v nws h tk, D k v nws → Fr h₀ L h (fun y => if y = x then some v else m y) → News h₀ L h nws →
      wpAny (model PySem.Challenge.pw_nt0254_01 w) A (isTrue test env (eval test env)) (fun b s₂ => if b = true then wpAny (model PySem.Challenge.pw_nt0254_01 w) A (execs body env) (WPs h₀ L x m D k { s with heap := h, toks := tk } Q) No s₂ else Q .next s₂) No { s with heap := h, toks := tk }) :
    wpAny (model PySem.Challenge.pw_nt0254_01 w) A (exec (.While test body [] pos) env) Q No s := by
  refine While_inv2 (fun k m' nws => ∃ v, (m' = fun y => if y = x then some v else m y) ∧ D k v nws) F N ⟨v₀, ?_, h0⟩ ?_ PassesOwn.never
  · funext y
    by_cases h : y = x
    · subst h; simp [hx]
    · simp [h]
  · rintro k m' nws h tk F' N' ⟨v, rfl, hD⟩
    refine wpAny_mono (turn k v nws h tk hD F' N') (fun b s₂ h₂ => ?_) fun _ _ e => e
    cases b with
    | false => simpa using h₂
    | true =>
      simp only [if_true] at h₂ ⊢
      refine wpAny_mono h₂ (fun f s₃ h₃ => ?_) fun _ _ e => e
      have go : (∃ h' tk' m' v' nws' k', s₃ = { { s with heap := h, toks := tk } with heap := h', toks := tk' } ∧ Fr h₀ L h' m' ∧ News h₀ L h' nws' ∧ k' < k ∧ m' x = some v' ∧ (∀ y, y ≠ x → m' y = m y) ∧ D k' v' nws') →
          ∃ h' tk m₂ news₂ n', s₃ = { s with heap := h', toks := tk } ∧ Fr h₀ L h' m₂ ∧ News h₀ L h' news₂ ∧ n' < k ∧ ∃ v, (m₂ = fun y => if y = x then some v else m y) ∧ D n' v news₂ := by
        rintro ⟨h', tk', m', v', nws', k', rfl, F2, N2, hk, hx', hm', hD'⟩
        refine ⟨h', tk', m', nws', k', rfl, F2, N2, hk, v', ?_, hD'⟩
        funext y
        by_cases q : y = x
        · subst q; simp [hx']
        · simp [q, hm' y q]
      cases f with
      | next => exact go h₃
      | cont => exact go h₃
      | brk => exact h₃
      | ret v => exact h₃

local macro_rules | `(tactic| walk_at "exec For Name Call cons nil") => `(tactic| (k_here; k_dflt (refine' For_K ?_ ?hs; (case hs => intro _; with_unfolding_all rfl))))
local macro_rules | `(tactic| walk_at "exec For Name Name cons nil") => `(tactic| (k_here; k_dflt (refine' For_K ?_ ?hs; (case hs => intro _; with_unfolding_all rfl))))
local macro_rules | `(tactic| walk_at "exec For Tuple Name cons nil") => `(tactic| (k_here; k_dflt (refine' For_K ?_ ?hs; (case hs => intro _; with_unfolding_all rfl))))
local macro_rules | `(tactic| walk_at "pyIter ref") => `(tactic| (k_here; (rename IsRange _ _ _ _ _ _ _ _ => hR'); refine' pyIter_rangeK ?hh ?F ?N hR' ?sm ?_; (case hh => exact Ok.handled (by walk_at "nt ok")); (case F => k_asm); (case N => k_asm); (case sm => exact small1 (by omega) (by omega) (by omega) (by omega)); intro I' oI' h' It' hP' F' N' lI'; clear hR'; (try k_sweep); (try dsimp only)))
local macro_rules | `(tactic| walk_at "nt same") => `(tactic| (intro y9 hy9; (simp only [List.contains_cons, List.contains_nil, Bool.or_false, Bool.or_eq_false_iff, beq_eq_false_iff_ne, ne_eq] at hy9); (simp [hy9]; done)))
local macro_rules | `(tactic| walk_at "nt sub") => `(tactic| first | exact List.forall_mem_nil _ | refine List.forall_mem_cons.mpr ⟨by k_mem, by walk_at "nt sub"⟩ | (intro p9 hp9; (repeat' (first | exact hp9 | refine List.Mem.tail _ ?_)); done))
local macro_rules | `(tactic| walk_at "assign Name") => `(tactic| (k_here; refine wpAny_assign_Name ?_))
local macro_rules | `(tactic| walk_at "exec While Compare") => `(tactic| (k_here; refine Halt.mk ?_))
local macro_rules | `(tactic| walk_at "nt ltall") => `(tactic| first | exact List.forall_mem_nil _ | refine List.forall_mem_cons.mpr ⟨(by refine ltN ?_; (try dsimp only); omega), by walk_at "nt ltall"⟩)

/-- a heap's own dict: the limit, the list of cells -/
abbrev heapD (w : World) (cl : Addr) (lim : Int) (t1 t2 t3 : Tok) : Obj :=
  dictOf [⟨PyData.keyHash w.params (Str.ofString "limit"), .str (Str.ofString "limit") t1, .int lim t2⟩, ⟨PyData.keyHash w.params (Str.ofString "cells"), .str (Str.ofString "cells") t3, .ref cl⟩] 2
abbrev tupO (its : Array Value) (n : Nat) : Obj := { cls := .type "tuple", data := .seq its n }
/-- the dict of the starts -/
def stK (zs : List Int) : List (Int × Value) := zs.map fun z => (z, Value.bool true)
def stD (zs : List Int) : List (PyData × PyData) := zs.map fun z => (PyData.int z, PyData.bool true)

def sizesL : List Int := [2, -1, -1, -1, 1, 2, 2, 2]
/-- the first wrong word of a block -/
def badWord (zs : List Int) : List Int → Option String
  | [] => none
  | x :: r => if x % 8 = 5 ∨ x % 8 = 6 then some "field" else if x % 8 = 1 ∧ x / 8 ∉ zs then some "reference" else badWord zs r
/-- what wrong_block tells -/
def wrongF (cs zs : List Int) (a : Nat) : Option String :=
  if 8 ≤ cs.getD a 0 / 8 % 16 then some "kind"
  else if 0 ≤ sizesL.getD (cs.getD a 0 / 8 % 16).toNat 0 ∧ cs.getD a 0 / 8 / 16 ≠ sizesL.getD (cs.getD a 0 / 8 % 16).toNat 0 then some "length"
  else if (cs.length : Int) < (a : Int) + 1 + cs.getD a 0 / 8 / 16 then some "end"
  else badWord zs ((cs.drop (a + 1)).take (cs.getD a 0 / 8 / 16).toNat)
/-- None, or a word -/
def OptV : Option String → Value → Prop
  | none, v => v = .none
  | some x, v => ∃ t, v = .str (Str.ofString x) t

theorem wrongF_kind {cs zs : List Int} {a : Int} (h : 8 ≤ cs.getD a.toNat 0 / 8 % 16) : wrongF cs zs a.toNat = some "kind" := by
  unfold wrongF; rw [if_pos h]
theorem wrongF_length {cs zs : List Int} {a : Int} (h : ¬ 8 ≤ cs.getD a.toNat 0 / 8 % 16) (h1 : 0 ≤ [2, -1, -1, -1, 1, 2, 2, 2].getD (cs.getD a.toNat 0 / 8 % 16).toNat 0)
    (h2 : cs.getD a.toNat 0 / 8 / 16 ≠ [2, -1, -1, -1, 1, 2, 2, 2].getD (cs.getD a.toNat 0 / 8 % 16).toNat 0) : wrongF cs zs a.toNat = some "length" := by
  unfold wrongF sizesL; rw [if_neg h, if_pos ⟨h1, h2⟩]
theorem wrongF_end {cs zs : List Int} {a : Int} (ha : 0 ≤ a) (h : ¬ 8 ≤ cs.getD a.toNat 0 / 8 % 16) (h1 : ¬ (0 ≤ [2, -1, -1, -1, 1, 2, 2, 2].getD (cs.getD a.toNat 0 / 8 % 16).toNat 0 ∧
    cs.getD a.toNat 0 / 8 / 16 ≠ [2, -1, -1, -1, 1, 2, 2, 2].getD (cs.getD a.toNat 0 / 8 % 16).toNat 0)) (h2 : (cs.length : Int) < a + 1 + cs.getD a.toNat 0 / 8 / 16) : wrongF cs zs a.toNat = some "end" := by
  unfold wrongF sizesL; rw [if_neg h, if_neg h1, if_pos (by rw [Int.toNat_of_nonneg ha]; exact h2)]
theorem wrongF_go {cs zs : List Int} {a : Int} (ha : 0 ≤ a) (h : ¬ 8 ≤ cs.getD a.toNat 0 / 8 % 16) (h1 : ¬ (0 ≤ [2, -1, -1, -1, 1, 2, 2, 2].getD (cs.getD a.toNat 0 / 8 % 16).toNat 0 ∧
    cs.getD a.toNat 0 / 8 / 16 ≠ [2, -1, -1, -1, 1, 2, 2, 2].getD (cs.getD a.toNat 0 / 8 % 16).toNat 0)) (h2 : ¬ (cs.length : Int) < a + 1 + cs.getD a.toNat 0 / 8 / 16) :
    wrongF cs zs a.toNat = badWord zs ((cs.drop (a.toNat + 1)).take (cs.getD a.toNat 0 / 8 / 16).toNat) := by
  unfold wrongF sizesL; rw [if_neg h, if_neg h1, if_neg (by rw [Int.toNat_of_nonneg ha]; exact h2)]
/-- the words of a block, from the i-th on -/
def restW (cs : List Int) (a n : Int) (i : Nat) : List Int := ((cs.drop (a.toNat + 1)).take n.toNat).drop i
theorem restW_cons {cs : List Int} {a n : Int} {i : Nat} (ha : 0 ≤ a) (hi : i < (a + 1 + n - (a + 1)).toNat) (hn : ¬ (cs.length : Int) < a + 1 + n) : restW cs a n i = cs.getD (a + 1 + (i : Int)).toNat 0 :: restW cs a n (i + 1) := by
  unfold restW
  have hlt : i < ((cs.drop (a.toNat + 1)).take n.toNat).length := by rw [List.length_take, List.length_drop]; omega
  rw [List.drop_eq_getElem_cons hlt]
  congr 1
  rw [List.getElem_take, List.getElem_drop]
  have e : (a + 1 + (i : Int)).toNat = a.toNat + 1 + i := by omega
  rw [e]
  have hl2 : a.toNat + 1 + i < cs.length := by omega
  simp [List.getD, hl2]
theorem restW_nil {cs : List Int} {a n : Int} : restW cs a n (a + 1 + n - (a + 1)).toNat = [] := by
  unfold restW
  apply List.drop_eq_nil_of_le
  rw [List.length_take]; omega
theorem badWord_field {zs r : List Int} {x : Int} (h : ¬ (x % 8 ≠ 5 ∧ x % 8 ≠ 6)) : badWord zs (x :: r) = some "field" := by
  unfold badWord; rw [if_pos (by omega)]
theorem badWord_ref {zs r : List Int} {x : Int} (h : x % 8 ≠ 5 ∧ x % 8 ≠ 6) (h1 : x % 8 = 1) (h2 : x / 8 ∉ zs) : badWord zs (x :: r) = some "reference" := by
  unfold badWord; rw [if_neg (by omega), if_pos ⟨h1, h2⟩]
theorem badWord_ok {zs r : List Int} {x : Int} (h : x % 8 ≠ 5 ∧ x % 8 ≠ 6) (h1 : ¬ (x % 8 = 1 ∧ x / 8 ∉ zs)) : badWord zs (x :: r) = badWord zs r := by
  rw [badWord, if_neg (by omega), if_neg h1]
theorem stD_some {x : Int} : ∀ {zs : List Int}, (PySem.Spec.lookup (.int x) (stD zs)).isSome = true ↔ x ∈ zs
  | [] => by simp [stD, PySem.Spec.lookup]
  | z :: r => by
    have ih := @stD_some x r
    have e : stD (z :: r) = (PyData.int z, PyData.bool true) :: stD r := rfl
    rw [e, PySem.Spec.lookup]
    by_cases q : z = x
    · subst q; simp [PySem.Spec.same]
    · have q' : ¬ x = z := fun h => q h.symm
      simp [PySem.Spec.same, q, q', ih]
theorem stD_none {x : Int} {zs : List Int} (h : (PySem.Spec.lookup (.int x) (stD zs)).isSome = false) : x ∉ zs := fun q => by
  rw [stD_some.mpr q] at h; cases h
/-- the ledger behind a call that kept what it was handed -/
theorem ro_back {h h' : Heap} {own : List (Addr × Obj)} (F : Fr h₀ L h m) (N : News h₀ L h news) (ho : ∀ p ∈ own, p ∈ news) (x : ExtB (own.map (·.1)) h h') (back : ∀ p ∈ own, h'.get? p.1 = some p.2) : Fr h₀ L h' m ∧ News h₀ L h' news := by
  refine ⟨fr_ext F x (out_of N fun b hb => ?_), fun p hp => ⟨?_, (N p hp).2⟩⟩
  · obtain ⟨p, hp, rfl⟩ := List.mem_map.mp hb
    exact ⟨p.2, ho p hp⟩
  · by_cases hd : p.1 ∈ own.map (·.1)
    · obtain ⟨q, hq, e⟩ := List.mem_map.mp hd
      have h1 := (N p hp).1
      have h2 := (N q (ho q hq)).1
      rw [e, h1] at h2
      have h3 := back q hq
      rw [e] at h3
      rw [h3]; exact h2.symm
    · exact x _ _ hd (N p hp).1

theorem wrong_K {hp dx cl sd : Addr} {a lim : Int} {ta t1 t2 t3 : Tok} {nc : Nat} {vs : List Value} {cs zs : List Int} {od : Obj}
    (F : Fr h₀ L s.heap m) (N : News h₀ L s.heap news) (X : (hd.heap_39 w.params).In h₀) (T : Top hd.view_39 (looseW hd.view_39 [Str.ofString "EMPTY_LIST"]) mean mg mb h₀) (o : Ok A 2)
    (i1 : (hp, instObj 227 dx) ∈ news) (i2 : (dx, heapD w cl lim t1 t2 t3) ∈ news) (i3 : (cl, listOf vs.toArray nc) ∈ news) (i4 : (sd, od) ∈ news)
    (hv : IntsAre vs cs) (ho : od.IsDictOf (intKind PySem.Challenge.pw_nt0254_01 w) (stK zs)) (hf : PyProof.V.FlatPairs PyData.int (stK zs) (stD zs)) (lo : (sd == sysModules) = false)
    (ha : 0 ≤ a) (ha' : a < (cs.length : Int)) (hlen : cs.length ≤ 1000) (hh0 : 0 ≤ cs.getD a.toNat 0) (hh1 : cs.getD a.toNat 0 ≤ 100000)
    (h : ∀ v h' tk', OptV (wrongF cs zs a.toNat) v → Fr h₀ L h' m → News h₀ L h' news → Q v { s with heap := h', toks := tk' }) :
    wpAny (model PySem.Challenge.pw_nt0254_01 w) A (call (.ref 238) [.ref hp, .int a ta, .ref sd]) Q E s := by
  obtain ⟨hd0, dp0, fr0, gd0, un0⟩ := A
  obtain rfl : hd0 = none := o.handled
  refine' enter (binds := [(Str.ofString "heap", .ref hp), (Str.ofString "address", .int a ta), (Str.ofString "starts", .ref sd)]) [(hp, instObj 227 dx), (dx, heapD w cl lim t1 t2 t3), (cl, listOf vs.toArray nc), (sd, od)] ?X ?T ?st ?hsub ?hb ?ho ?hcd ?hroom ?hbind ?hloc ?hco ?hgen ?hk ?hcell ?_
  (case X => assumption)
  (case T => assumption)
  (case st => exact Fr.keep (by assumption))
  (case ho => k_is)
  (case hcd => k_is)
  (case hroom => exact Ok.room (by assumption))
  (case hbind => exact BindsTo.of_eq rfl)
  (case hloc => exact locs rfl)
  (case hco => exact rfl)
  (case hgen => exact rfl)
  (case hk => exact rfl)
  (case hcell => decide)
  (case hsub => exact List.forall_mem_cons.mpr ⟨(N _ i1).1, List.forall_mem_cons.mpr ⟨(N _ i2).1, List.forall_mem_cons.mpr ⟨(N _ i3).1, List.forall_mem_cons.mpr ⟨(N _ i4).1, List.forall_mem_nil _⟩⟩⟩⟩)
  (case hb => exact List.forall_mem_cons.mpr ⟨(N _ i1).2.2, List.forall_mem_cons.mpr ⟨(N _ i2).2.2, List.forall_mem_cons.mpr ⟨(N _ i3).2.2, List.forall_mem_cons.mpr ⟨(N _ i4).2.2, List.forall_mem_nil _⟩⟩⟩⟩)
  have hown : ∀ p ∈ [(hp, instObj 227 dx), (dx, heapD w cl lim t1 t2 t3), (cl, listOf vs.toArray nc), (sd, od)], p ∈ news := List.forall_mem_cons.mpr ⟨i1, List.forall_mem_cons.mpr ⟨i2, List.forall_mem_cons.mpr ⟨i3, List.forall_mem_cons.mpr ⟨i4, List.forall_mem_nil _⟩⟩⟩⟩
  intro g L h₁ F' N' KX' T' lt xg
  try dsimp only
  k_steps
  all_goals (try dsimp only)
  all_goals first
    | (
      refine for_ro (L := L) [Str.ofString "at", Str.ofString "word"] (fun i => wrongF cs zs a.toNat = badWord zs (restW cs a (cs.getD a.toNat 0 / 8 / 16) i)) (by assumption) (by assumption) rfl (by assumption) (by assumption) (by assumption) ?_ (fun _ _ _ => trivial) (letGo_pure fun _ => rfl) (fun _ _ x => x) ?_ ?_
      · exact wrongF_go ha (by assumption) (by intro hx; first | exact hx.2 (by assumption) | exact absurd hx.1 (by assumption)) (by assumption)
      · rintro i v u h9 tk9 oI9 hi ⟨t9, rfl⟩ hD F9 N9
        (try dsimp only)
        k_steps
        all_goals (try dsimp only)
        all_goals first
          | (refine TPr.intro (by assumption) (by assumption) (by walk_at "nt sub") (by walk_at "nt same") ?_
             rw [hD, restW_cons ha hi (by assumption)]
             refine badWord_ok (by assumption) ?_
             first | (intro hx; exact hx.2 (stD_some.mp (by assumption))) | (intro hx; exact absurd hx.1 (by assumption)))
          | (dsimp only [TPr]
             rename News _ _ _ _ => Nz
             refine Lv.intro (by assumption) fun x => ?_
             obtain ⟨F2, N2⟩ := ro_back F N hown x (List.forall_mem_cons.mpr ⟨Nz.get (by k_mem), List.forall_mem_cons.mpr ⟨Nz.get (by k_mem), List.forall_mem_cons.mpr ⟨Nz.get (by k_mem), List.forall_mem_cons.mpr ⟨Nz.get (by k_mem), List.forall_mem_nil _⟩⟩⟩⟩)
             refine h _ _ _ ?_ F2 N2
             rw [hD, restW_cons ha hi (by assumption)]
             first | (rw [badWord_field (by assumption)]; exact ⟨_, rfl⟩) | (rw [badWord_ref (by assumption) (by assumption) (stD_none (by assumption))]; exact ⟨_, rfl⟩))
      · intro u h9 tk9 hD F9 N9
        (try dsimp only)
        k_steps
        all_goals (try dsimp only)
        refine Lv.intro (by assumption) fun x => ?_
        obtain ⟨F2, N2⟩ := ro_back F N hown x (List.forall_mem_cons.mpr ⟨N9.get (by k_mem), List.forall_mem_cons.mpr ⟨N9.get (by k_mem), List.forall_mem_cons.mpr ⟨N9.get (by k_mem), List.forall_mem_cons.mpr ⟨N9.get (by k_mem), List.forall_mem_nil _⟩⟩⟩⟩)
        refine h _ _ _ ?_ F2 N2
        rw [hD, restW_nil]
        exact rfl)
    | (rename News _ _ _ _ => Nz
       refine Lv.intro (by assumption) fun x => ?_
       obtain ⟨F2, N2⟩ := ro_back F N hown x (List.forall_mem_cons.mpr ⟨Nz.get (by k_mem), List.forall_mem_cons.mpr ⟨Nz.get (by k_mem), List.forall_mem_cons.mpr ⟨Nz.get (by k_mem), List.forall_mem_cons.mpr ⟨Nz.get (by k_mem), List.forall_mem_nil _⟩⟩⟩⟩)
       refine h _ _ _ ?_ F2 N2
       first
         | (rw [wrongF_kind (by assumption)]; exact ⟨_, rfl⟩)
         | (rw [wrongF_length (by assumption) (by assumption) (by assumption)]; exact ⟨_, rfl⟩)
         | (rw [wrongF_end ha (by assumption) (by intro hx; first | exact hx.2 (by assumption) | exact absurd hx.1 (by assumption)) (by assumption)]; exact ⟨_, rfl⟩))

theorem optV_cases {r : Option String} {v : Value} (h : OptV r v) : (r = none ∧ v = .none) ∨ ∃ x t, r = some x ∧ v = .str (Str.ofString x) t := by
  cases r with
  | none => exact .inl ⟨rfl, h⟩
  | some x => obtain ⟨t, h⟩ := h; exact .inr ⟨x, t, rfl, h⟩


local macro_rules | `(tactic| walk_at "call ref") => `(tactic| (k_here; (with_reducible show wpAny _ _ (call (Value.ref 238) [Value.ref _, Value.int _ _, Value.ref _]) _ _ _); refine' wrong_K ?F ?N ?X ?T ?o ?i1 ?i2 ?i3 ?i4 ?hv ?ho ?hf ?lo ?ha ?hab ?hlen ?hh0 ?hh1 ?_; (case F => k_asm); (case N => k_asm); (case X => k_asm); (case T => k_asm); (case o => walk_at "nt ok"); (case i1 => k_mem); (case i2 => k_mem); (case i3 => k_mem); (case i4 => k_mem); (case hv => assumption); (case ho => assumption); (case hf => assumption); (case lo => assumption); (case ha => omega); (case hab => omega); (case hlen => omega); (case hh0 => first | assumption | omega); (case hh1 => first | assumption | omega); k_whole; intro v' h' tk' hv' F' N'; (try k_sweep); rcases optV_cases hv' with ⟨hw', e'⟩ | ⟨x', t', hw', e'⟩; all_goals (subst e'; try dsimp only)))

/-- the first walk of heap_error: from a place on, the starts that it notes, where it stops for a header that is none -/
inductive Scan (cs : List Int) : Nat → List Int → Option Nat → Prop
  | stop {a : Nat} : cs.length ≤ a → Scan cs a [] none
  | bad {a : Nat} : a < cs.length → cs.getD a 0 % 8 ≠ 5 → Scan cs a [] (some a)
  | step {a : Nat} {zs : List Int} {e : Option Nat} : a < cs.length → cs.getD a 0 % 8 = 5 → 0 ≤ cs.getD a 0 → cs.getD a 0 ≤ 100000 → Scan cs (a + 1 + (cs.getD a 0 / 8 / 16).toNat) zs e → Scan cs a ((a : Int) :: zs) e
theorem Scan.mem {cs : List Int} {a : Nat} {zs : List Int} {e : Option Nat} (h : Scan cs a zs e) : ∀ z ∈ zs, (a : Int) ≤ z ∧ z < (cs.length : Int) ∧ 0 ≤ cs.getD z.toNat 0 ∧ cs.getD z.toNat 0 ≤ 100000 := by
  induction h with
  | stop _ => intro z hz; cases hz
  | bad _ _ => intro z hz; cases hz
  | @step a zs e h1 h2 h3 h4 _ ih =>
    intro z hz
    rcases List.mem_cons.mp hz with rfl | hz
    · refine ⟨Int.le_refl _, by omega, ?_, ?_⟩ <;> simpa using (by assumption)
    · obtain ⟨i1, i2, i3, i4⟩ := ih z hz
      exact ⟨by omega, i2, i3, i4⟩
theorem Scan.len {cs : List Int} {a : Nat} {zs : List Int} {e : Option Nat} (h : Scan cs a zs e) : zs.length ≤ cs.length - a := by
  induction h with
  | stop _ => simp
  | bad _ _ => simp
  | step h1 _ _ _ _ ih => rw [List.length_cons]; omega

/-- the first start whose block is wrong -/
def firstF (cs all : List Int) : List Int → Option (Int × String)
  | [] => none
  | z :: r => match wrongF cs all z.toNat with
    | some x => some (z, x)
    | none => firstF cs all r
theorem firstF_none {cs all r : List Int} {z : Int} (h : wrongF cs all z.toNat = none) : firstF cs all (z :: r) = firstF cs all r := by rw [firstF, h]
theorem firstF_some {cs all r : List Int} {z : Int} {x : String} (h : wrongF cs all z.toNat = some x) : firstF cs all (z :: r) = some (z, x) := by rw [firstF, h]
/-- what heap_error tells -/
def errF (cs zs : List Int) : Option Nat → Option (Int × String)
  | some a => some ((a : Int), "header")
  | none => firstF cs zs zs

theorem stK_absent {z : Int} : ∀ {zs : List Int}, z ∉ zs → valueAt (stK zs) z = none
  | [], _ => rfl
  | y :: r, h => by
    have h1 : z ≠ y := fun q => h (q ▸ .head _)
    have h2 : z ∉ r := fun q => h (.tail _ q)
    have ih := stK_absent h2
    unfold valueAt stK at *
    rw [List.map_cons, List.find?_cons]
    have : (decide (y = z)) = false := decide_eq_false (fun q => h1 q.symm)
    simp_all
theorem stK_snoc {zs : List Int} {z : Int} : stK (zs ++ [z]) = stK zs ++ [(z, .bool true)] := by simp [stK]
theorem stD_snoc {zs : List Int} {z : Int} : stD (zs ++ [z]) = stD zs ++ [(.int z, .bool true)] := by simp [stD]
theorem stD_put {zs : List Int} {z : Int} (h : z ∉ zs) : PyProof.V.putD (.int z) (.bool true) (stD zs) = stD (zs ++ [z]) := by
  unfold PyProof.V.putD
  have e : (stD zs).any (fun p => PySem.Spec.same p.1 (.int z)) = false := by
    rw [List.any_eq_false]
    intro p hp
    obtain ⟨y, hy, rfl⟩ := List.mem_map.mp hp
    simp only [PySem.Spec.same, beq_iff_eq]
    intro q; exact h (q ▸ hy)
  rw [e, stD_snoc]; simp

theorem stSet_K {sd : Addr} {od : Obj} {g : Obj → List (Addr × Obj)} {zs : List Int} {z : Int} {t : Tok} {Q : Unit → Shared → Prop} (F : Fr h₀ L s.heap m) (N : News h₀ L s.heap news) (U : UpdF sd od news g)
    (ho : od.IsDictOf (intKind PySem.Challenge.pw_nt0254_01 w) (stK zs)) (hf : PyProof.V.FlatPairs PyData.int (stK zs) (stD zs)) (hz : z ∉ zs) (hl : zs.length ≤ 10000)
    (h : ∀ h' od', Fr h₀ L h' m → News h₀ L h' (g od') → od'.IsDictOf (intKind PySem.Challenge.pw_nt0254_01 w) (stK (zs ++ [z])) → PyProof.V.FlatPairs PyData.int (stK (zs ++ [z])) (stD (zs ++ [z])) → Q () { s with heap := h', toks := s.toks + 1 }) :
    wpAny (model PySem.Challenge.pw_nt0254_01 w) A (setItem (.ref sd) (.int z t) (.bool true)) Q E s := by
  refine setItem_K PyProof.V.same_int (intKind_is _ _ z t) (.bool true) F N U ho hf (fun h' od' F' N' hd' hf' => ?_) ?_
  · rw [stored_absent (stK_absent hz), ← stK_snoc] at hd' hf'
    rw [stD_put hz] at hf'
    exact h h' od' F' N' hd' hf'
  · rw [sizeLine_eq]; unfold stD; rw [List.length_map]; omega

/-- between the turns of heap_error's while -/
def HeD (w : World) (cs zs : List Int) (e : Option Nat) (sd : Addr) (rest : List (Addr × Obj)) (k : Nat) (v : Value) (nws : List (Addr × Obj)) : Prop :=
  ∃ (a : Nat) (t : Tok) (od : Obj) (zs1 zs2 : List Int), v = .int (a : Int) t ∧ nws = (sd, od) :: rest ∧
    od.IsDictOf (intKind PySem.Challenge.pw_nt0254_01 w) (stK zs1) ∧ PyProof.V.FlatPairs PyData.int (stK zs1) (stD zs1) ∧ Scan cs a zs2 e ∧ zs = zs1 ++ zs2 ∧ (∀ z ∈ zs1, z < (a : Int)) ∧ zs1.length ≤ a ∧ k = 2000 - a
theorem HeD.intro {cs zs : List Int} {e : Option Nat} {sd : Addr} {rest : List (Addr × Obj)} {x : Int} {t : Tok} {od : Obj} (a : Nat) {zs1 zs2 : List Int} (hx : x = (a : Int)) (h1 : od.IsDictOf (intKind PySem.Challenge.pw_nt0254_01 w) (stK zs1)) (h2 : PyProof.V.FlatPairs PyData.int (stK zs1) (stD zs1))
    (h3 : Scan cs a zs2 e) (h4 : zs = zs1 ++ zs2) (h5 : ∀ z ∈ zs1, z < (a : Int)) (h6 : zs1.length ≤ a) : HeD w cs zs e sd rest (2000 - a) (.int x t) ((sd, od) :: rest) :=
  ⟨a, t, od, zs1, zs2, by rw [hx], rfl, h1, h2, h3, h4, h5, h6, rfl⟩

local macro_rules | `(tactic| walk_at "setItem ref int bool") => `(tactic| (k_here; refine' stSet_K ?F ?N ?U ?ho ?hf ?hz ?hl ?_; (case F => k_asm); (case N => k_asm); (case U => k_updF); (case ho => assumption); (case hf => assumption); (case hz => assumption); (case hl => omega); intro h' o' F' N' hd' hf'; (try dsimp only at N'); (try k_sweep)))

/-- the ledger behind a call that kept what it was handed and hands on an object of its own -/
theorem new_back {h h' g : Heap} {L' R : Addr} {o : Obj} {own all : List (Addr × Obj)} (F : Fr h₀ L h m) (N : News h₀ L h news) (ho : ∀ p ∈ own, p ∈ news) (x : ExtB (own.map (·.1)) h h') (xg : ExtB (own.map (·.1)) h g) (Nz : News g L' h' all)
    (back : ∀ p ∈ own, p ∈ all) (hR : (R, o) ∈ all) (hn : R ∉ own.map (·.1)) : Fr h₀ L h' m ∧ News h₀ L h' ((R, o) :: news) ∧ ∀ p ∈ news, p.1 ≠ R := by
  obtain ⟨F2, N2⟩ := ro_back F N ho x (fun p hp => (Nz p (back p hp)).1)
  obtain ⟨f1, f2, f3⟩ := fresh_of F N xg (Nz _ hR).2.2 hn
  exact ⟨F2, news_cons N2 (Nz _ hR).1 ⟨f1, f2⟩, f3⟩
theorem off_map {R : Addr} {own : List (Addr × Obj)} (h : ∀ p ∈ own, @LT.lt Nat _ p.1 R) : R ∉ own.map (·.1) := fun q => by
  obtain ⟨p, hp, e⟩ := List.mem_map.mp q
  have := h p hp; rw [e] at this; exact absurd this (Nat.lt_irrefl _)
theorem stK_get {zs : List Int} {i : Nat} {k : Int} {x : Value} (h : (stK zs)[i]? = some (k, x)) : zs[i]? = some k := by
  unfold stK at h
  rw [List.getElem?_map] at h
  cases e : zs[i]? with
  | none => rw [e] at h; cases h
  | some z => rw [e] at h; cases h; rfl
theorem drop_get {zs : List Int} {i : Nat} {k : Int} (h : zs[i]? = some k) : zs.drop i = k :: zs.drop (i + 1) := by
  obtain ⟨hi, e⟩ := List.getElem?_eq_some_iff.mp h
  rw [List.drop_eq_getElem_cons hi, e]

theorem heapErr_K {hp dx cl : Addr} {lim : Int} {t1 t2 t3 : Tok} {nc : Nat} {vs : List Value} {cs zs : List Int} {e : Option Nat}
    (F : Fr h₀ L s.heap m) (N : News h₀ L s.heap news) (X : (hd.heap_39 w.params).In h₀) (T : Top hd.view_39 (looseW hd.view_39 [Str.ofString "EMPTY_LIST"]) mean mg mb h₀) (o : Ok A 3)
    (i1 : (hp, instObj 227 dx) ∈ news) (i2 : (dx, heapD w cl lim t1 t2 t3) ∈ news) (i3 : (cl, listOf vs.toArray nc) ∈ news)
    (hv : IntsAre vs cs) (hlen : cs.length ≤ 1000) (sc : Scan cs 0 zs e)
    (h0 : errF cs zs e = none → ∀ h' tk', Fr h₀ L h' m → News h₀ L h' news → Q .none { s with heap := h', toks := tk' })
    (h1 : ∀ a x, errF cs zs e = some (a, x) → ∀ R ta tx n h' tk', Fr h₀ L h' m → News h₀ L h' ((R, tupO #[.int a ta, .str (Str.ofString x) tx] n) :: news) → (∀ p ∈ news, @Ne Nat p.1 R) → Q (.ref R) { s with heap := h', toks := tk' }) :
    wpAny (model PySem.Challenge.pw_nt0254_01 w) A (call (.ref 245) [.ref hp]) Q E s := by
  obtain ⟨hd0, dp0, fr0, gd0, un0⟩ := A
  obtain rfl : hd0 = none := o.handled
  refine' enter (binds := [(Str.ofString "heap", .ref hp)]) [(hp, instObj 227 dx), (dx, heapD w cl lim t1 t2 t3), (cl, listOf vs.toArray nc)] ?X ?T ?st ?hsub ?hb ?ho ?hcd ?hroom ?hbind ?hloc ?hco ?hgen ?hk ?hcell ?_
  (case X => assumption)
  (case T => assumption)
  (case st => exact Fr.keep (by assumption))
  (case ho => k_is)
  (case hcd => k_is)
  (case hroom => exact Ok.room (by assumption))
  (case hbind => exact BindsTo.of_eq rfl)
  (case hloc => exact locs rfl)
  (case hco => exact rfl)
  (case hgen => exact rfl)
  (case hk => exact rfl)
  (case hcell => decide)
  (case hsub => exact List.forall_mem_cons.mpr ⟨(N _ i1).1, List.forall_mem_cons.mpr ⟨(N _ i2).1, List.forall_mem_cons.mpr ⟨(N _ i3).1, List.forall_mem_nil _⟩⟩⟩)
  (case hb => exact List.forall_mem_cons.mpr ⟨(N _ i1).2.2, List.forall_mem_cons.mpr ⟨(N _ i2).2.2, List.forall_mem_cons.mpr ⟨(N _ i3).2.2, List.forall_mem_nil _⟩⟩⟩)
  have hown : ∀ p ∈ [(hp, instObj 227 dx), (dx, heapD w cl lim t1 t2 t3), (cl, listOf vs.toArray nc)], p ∈ news := List.forall_mem_cons.mpr ⟨i1, List.forall_mem_cons.mpr ⟨i2, List.forall_mem_cons.mpr ⟨i3, List.forall_mem_nil _⟩⟩⟩
  intro g L h₁ F' N' KX' T' lt xg
  try dsimp only
  k_steps
  all_goals (try dsimp only)
  unfold Halt
  rename News _ _ _ _ => Ns
  rename Fr _ _ _ _ => Fs
  refine while_sm (Str.ofString "at") (HeD w cs zs e _ [(hp, instObj 227 dx), (dx, heapD w cl lim t1 t2 t3), (cl, listOf vs.toArray nc)]) 2000 Fs Ns rfl
    (HeD.intro (zs1 := []) 0 rfl (by assumption) (by assumption) sc rfl (List.forall_mem_nil _) (Nat.le_refl _)) ?_
  rintro k v nws h9 tk9 ⟨a, t, od, zs1, zs2, rfl, rfl, hd9, hf9, sc9, hz9, hlt9, hle9, hk9⟩ F9 N9
  clear Ns Fs
  have hn9 : (a : Int) ∉ zs1 := fun q => absurd (hlt9 _ q) (Int.lt_irrefl _)
  k_steps
  all_goals (try dsimp only)
  all_goals (try simp only [Int.toNat_natCast] at *)
  · -- the next turn
    cases sc9 with
    | stop q => exact absurd (by assumption) (show ¬ ((a : Int) < (cs.length : Int)) by omega)
    | bad q1 q2 => exact absurd (by assumption) q2
    | step q1 q2 q3 q4 q5 =>
      rename News _ _ _ _ => Nz
      subst hk9
      refine WPs.intro (2000 - (a + 1 + (cs.getD a 0 / 8 / 16).toNat)) [(_, _), (hp, instObj 227 dx), (dx, heapD w cl lim t1 t2 t3), (cl, listOf vs.toArray nc)] (by assumption) Nz (fun p hp => hp) (by omega) rfl (by intro y hy; simp [hy]) (HeD.intro _ ?_ (by assumption) (by assumption) q5 ?_ ?_ ?_)
      · omega
      · rw [hz9, List.append_assoc]; rfl
      · intro z hz
        rcases List.mem_append.mp hz with hz | hz
        · have := hlt9 z hz; omega
        · rw [List.mem_singleton.mp hz]; omega
      · rw [List.length_append, List.length_singleton]; omega
  · -- no header
    dsimp only [WPs]
    cases sc9 with
    | stop q => exact absurd (by assumption) (show ¬ ((a : Int) < (cs.length : Int)) by omega)
    | step q1 q2 q3 q4 q5 => exact absurd q2 (by assumption)
    | bad q1 q2 =>
      rename News _ _ _ _ => Nz
      refine Lv.intro (by assumption) fun x => ?_
      obtain ⟨F2, N2, l2⟩ := new_back (own := [(hp, instObj 227 dx), (dx, heapD w cl lim t1 t2 t3), (cl, listOf vs.toArray nc)]) F N hown x xg Nz (by walk_at "nt sub") (.head _) (off_map (by walk_at "nt ltall"))
      exact h1 _ _ rfl _ _ _ _ _ _ F2 N2 l2
  · -- the second walk
    cases sc9 with
    | bad q1 q2 => exact absurd (show ((a : Int) < (cs.length : Int)) by omega) (by assumption)
    | step q1 q2 q3 q4 q5 => exact absurd (show ((a : Int) < (cs.length : Int)) by omega) (by assumption)
    | stop q =>
      rw [List.append_nil] at hz9
      subst hz9
      obtain ⟨ep, ka⟩ := KdkAt.of hd9
      have hm9 := sc.mem
      refine pyIter_dictK (kvs := stK zs) (ep := ep) rfl F9 N9 (by assumption) (ka.dictAt (N9.get (.head _))) ?_
      intro I oI h8 It hP F8 N8 lI
      dsimp only
      refine for_ro (L := L) [Str.ofString "address", Str.ofString "word"] (fun i => errF cs zs none = firstF cs zs (zs.drop i)) It hP rfl F8 N8 lI rfl (fun h k N => ka.dictAt (N.get (.head _))) (letGo_pure fun _ => rfl) (fun _ _ x => x) ?_ ?_
      · rintro i v u h7 tk7 oI7 hi ⟨k, xv, t7, hk, rfl⟩ hD F7 N7
        have hz := stK_get hk
        have hdr := drop_get hz
        obtain ⟨b1, b2, b3, b4⟩ := hm9 k (List.mem_of_getElem? hz)
        clear F8 N8 F9 N9
        (try dsimp only)
        k_steps
        all_goals (try dsimp only)
        all_goals first
          | (refine TPr.intro (by assumption) (by assumption) (by walk_at "nt sub") (by walk_at "nt same") ?_
             rw [hD, hdr]; exact firstF_none (by assumption))
          | (dsimp only [TPr]
             rename News _ _ _ _ => Nz
             refine Lv.intro (by assumption) fun x => ?_
             obtain ⟨F2, N2, l2⟩ := new_back (own := [(hp, instObj 227 dx), (dx, heapD w cl lim t1 t2 t3), (cl, listOf vs.toArray nc)]) F N hown x xg Nz (by walk_at "nt sub") (.head _) (off_map (by walk_at "nt ltall"))
             refine h1 _ _ ?_ _ _ _ _ _ _ F2 N2 l2
             rw [hD, hdr]; exact firstF_some (by assumption))
      · intro u h7 tk7 hD F7 N7
        clear F8 N8 F9 N9
        (try dsimp only)
        k_steps
        all_goals (try dsimp only)
        refine Lv.intro (by assumption) fun x => ?_
        obtain ⟨F2, N2⟩ := ro_back F N hown x (fun p hp => N7.get (.tail _ hp))
        refine h0 ?_ _ _ F2 N2
        rw [hD, List.drop_eq_nil_of_le (by simp [stK])]
        rfl


theorem mem_of {x : Addr × Obj} {l : List (Addr × Obj)} (h : x ∈ l) : List.Mem x l := h

theorem lenI_K {l : Addr} {n : Nat} {vs : List Value} {ns : List Int} (N : News h₀ L s.heap news) (hm : (l, listOf vs.toArray n) ∈ news) (hi : IntsAre vs ns) (hl : ns.length ≤ 100000) (h : ∀ (t : Tok) tk', Q (.int (ns.length : Int) t) { s with toks := tk' }) :
    wpAny (model PySem.Challenge.pw_nt0254_01 w) A (call (.builtin "len") [.ref l]) Q E s := by
  have e : (vs.toArray.size : Int) = (ns.length : Int) := by rw [List.size_toArray, hi.length]
  refine len_list (News.isList N hm) (by rw [e]; omega) ?_
  rw [e]; exact h _ _
theorem addI_K {a b : Addr} {n k : Nat} {vs us : List Value} {ns ms : List Int} (F : Fr h₀ L s.heap m) (N : News h₀ L s.heap news) (ha : (a, listOf vs.toArray n) ∈ news) (hb : (b, listOf us.toArray k) ∈ news) (hi : IntsAre vs ns) (hj : IntsAre us ms)
    (hz : ns.length + ms.length ≤ 100000) (h : ∀ D xs h', Fr h₀ L h' m → News h₀ L h' ((D, listOf (List.toArray xs) 0) :: news) → (∀ p ∈ news, @LT.lt Nat _ p.1 D) → IntsAre xs (ns ++ ms) → Q (.ref D) { s with heap := h' }) :
    wpAny (model PySem.Challenge.pw_nt0254_01 w) A (binaryOp .Add (.ref a) (.ref b)) Q E s :=
  kmk_add_ints F N (News.isList N ha) (News.isList N hb) hi hj h (by rw [sizeLine_eq]; omega)
/-- Heap(lim): a new heap without cells -/
theorem heapNew_K {lim : Int} {tl : Tok} (F : Fr h₀ L s.heap m) (N : News h₀ L s.heap news) (X : (hd.heap_39 w.params).In h₀) (T : Top hd.view_39 (looseW hd.view_39 [Str.ofString "EMPTY_LIST"]) mean mg mb h₀) (o : Ok A 2)
    (h : ∀ hp dx cl t1 t3 nc h' tk', Fr h₀ L h' m → News h₀ L h' ((hp, instObj 227 dx) :: (dx, heapD w cl lim t1 tl t3) :: (cl, listOf #[] nc) :: news) → (∀ p ∈ news, @LT.lt Nat _ p.1 dx) → @LT.lt Nat _ dx hp → @LT.lt Nat _ hp cl → Q (.ref hp) { s with heap := h', toks := tk' }) :
    wpAny (model PySem.Challenge.pw_nt0254_01 w) A (call (.ref 227) [.int lim tl]) Q E s := by
  skip
  obtain ⟨hd0, dp0, fr0, gd0, un0⟩ := A
  obtain rfl : hd0 = none := o.handled
  refine' call_cls F X N ?hm ?hi ?hf ?_
  (case hm => k_is)
  (case hi => k_is)
  (case hf => k_is)
  intro x dx h1 F1 N1 l1 l2
  have o1 : Ok (Around.under { handled := none, depth := dp0, frames := fr0, guards := gd0, units := un0 } (.builtin "type.__call__" ⟨[.ref 227, .int lim tl], []⟩)) 1 := ⟨rfl, by have := o.depth; show dp0 + 1 + 1 < 1000; dsimp only at this; omega, by have := o.units; show un0 + 1 + 8 * 1 < 9900; dsimp only at this; omega⟩
  clear o
  generalize hA : (Around.under { handled := none, depth := dp0, frames := fr0, guards := gd0, units := un0 } (.builtin "type.__call__" ⟨[.ref 227, .int lim tl], []⟩)) = A at o1 ⊢
  have o := o1
  clear o1 hA
  obtain ⟨hd0, dp0, fr0, gd0, un0⟩ := A
  obtain rfl : hd0 = none := o.handled
  refine' enterR (binds := [(Str.ofString "self", .ref x), (Str.ofString "limit", .int lim tl)]) (Q := fun v s' => v = .none ∧ Q (.ref x) s') [(x, instObj 227 dx), (dx, dictOf [] 0)] ?X ?T ?st ?hsub ?hb ?ho ?hcd ?hroom ?hbind ?hloc ?hco ?hgen ?hk ?hcell ?hR ?_
  (case X => assumption)
  (case T => assumption)
  (case st => exact Fr.keep (by assumption))
  (case ho => k_is)
  (case hcd => k_is)
  (case hroom => exact Ok.room (by assumption))
  (case hbind => exact BindsTo.of_eq rfl)
  (case hloc => exact locs rfl)
  (case hco => exact rfl)
  (case hgen => exact rfl)
  (case hk => exact rfl)
  (case hcell => decide)
  (case hR => exact fun v s' hq => ⟨hq.1, hq.2⟩)
  (case hsub => exact List.forall_mem_cons.mpr ⟨(N1 _ (.head _)).1, List.forall_mem_cons.mpr ⟨(N1 _ (.tail _ (.head _))).1, List.forall_mem_nil _⟩⟩)
  (case hb => exact List.forall_mem_cons.mpr ⟨(N1 _ (.head _)).2.2, List.forall_mem_cons.mpr ⟨(N1 _ (.tail _ (.head _))).2.2, List.forall_mem_nil _⟩⟩)
  intro g L1 h₁ F' N' KX' T' lt xg
  have l2' : @LT.lt Nat _ dx x := l2
  try dsimp only
  k_steps
  all_goals (try dsimp only)
  rename News _ _ _ _ => Nz
  refine Lv.intro (by assumption) fun xe => ⟨rfl, ?_⟩
  obtain ⟨f1, f2, f3⟩ := fresh_of F1 N1 xg (Nz _ (.head _)).2.2 (off_map (own := [(x, instObj 227 dx), (dx, dictOf [] 0)]) (by walk_at "nt ltall"))
  have n1 := N1 _ (.head _)
  have n2 := N1 _ (.tail _ (.head _))
  have F2 := fr_ext F1 xe (by
    intro d hd
    rcases List.mem_cons.mp hd with rfl | hd
    · exact ⟨n1.2.2, n1.2.1⟩
    · rw [List.mem_singleton.mp hd]; exact ⟨n2.2.2, n2.2.1⟩)
  have N2 : News h₀ L _ news := news_ext (news_sub N1 fun p hp => .tail _ (.tail _ hp)) xe (fun p hp q => by
    have := l1 p hp
    rcases List.mem_cons.mp q with q | q
    · rw [q] at this; exact absurd (Nat.lt_trans this l2') (Nat.lt_irrefl _)
    · rw [List.mem_singleton.mp q] at this; exact absurd this (Nat.lt_irrefl _))
  exact h x dx _ _ _ _ _ _ F2 (news_cons (news_cons (news_cons N2 (Nz _ (.head _)).1 ⟨f1, f2⟩) (Nz _ (.tail _ (.tail _ (.head _)))).1 ⟨n2.2.2, n2.2.1⟩) (Nz _ (.tail _ (.head _))).1 ⟨n1.2.2, n1.2.1⟩) l1 l2' (by refine ltN ?_; omega)

local macro_rules | `(tactic| walk_at "call ref") => `(tactic| (k_here; (with_reducible show wpAny _ _ (call (Value.ref 227) [Value.int _ _]) _ _ _); refine' heapNew_K ?F ?N ?X ?T ?o ?_; (case F => k_asm); (case N => k_asm); (case X => k_asm); (case T => k_asm); (case o => walk_at "nt ok"); k_whole; intro hp' dx' cl' t1' t3' nc' h' tk' F' N' l1' l2' l3'; (try k_lt l1'); (try k_sweep); (try dsimp only)))
local macro_rules | `(tactic| k_all) => `(tactic| (with_reducible assumption))
local macro_rules | `(tactic| k_mem) => `(tactic| (refine mem_of ?_; ktr_member))
local macro_rules | `(tactic| walk_at "call builtin:len") => `(tactic| (k_here; (with_reducible show wpAny _ _ (call (Value.builtin "len") [Value.ref _]) _ _ _); refine' lenI_K ?N ?hm ?hi ?hl ?_; (case N => k_asm); (case hm => k_mem); (case hi => walk_at "nt ints"); (case hl => walk_at "nt lens"); intro t' tk'))
local macro_rules | `(tactic| walk_at "binaryOp Add ref ref") => `(tactic| (k_here; (with_reducible show wpAny _ _ (binaryOp _ (Value.ref _) (Value.ref _)) _ _ _); refine' addI_K ?F ?N ?ha ?hb ?hi ?hj ?hz ?_; (case F => k_asm); (case N => k_asm); (case ha => k_mem); (case hb => k_mem); (case hi => walk_at "nt ints"); (case hj => walk_at "nt ints"); (case hz => walk_at "nt lens"); intro D' xs' h' F' N' lD' hI'; (try simp only [List.forall_mem_cons, List.not_mem_nil, false_implies, implies_true, and_true] at lD'); (try k_sweep); (try dsimp only)))
local macro_rules | `(tactic| walk_at "nt ints") => `(tactic| first | assumption | exact IntsAre.cons IntsAre.nil)
local macro_rules | `(tactic| walk_at "nt lens") => `(tactic| first | omega | ((try simp only [List.length_cons, List.length_append, List.length_nil]); omega))

/-- a block: its kind, its words -/
abbrev Blk := Int × List Int
def hdrW (b : Blk) : Int := ((b.2.length : Int) * 16 + b.1) * 8 + 5
/-- the cells of blocks -/
def cellsOf : List Blk → List Int
  | [] => []
  | b :: r => hdrW b :: (b.2 ++ cellsOf r)
theorem cellsOf_append (a b : List Blk) : cellsOf (a ++ b) = cellsOf a ++ cellsOf b := by
  induction a with
  | nil => rfl
  | cons x r ih => simp [cellsOf, ih]
theorem cellsOf_take {bs : List Blk} {i : Nat} {b : Blk} (h : bs[i]? = some b) : cellsOf (bs.take (i + 1)) = cellsOf (bs.take i) ++ [hdrW b] ++ b.2 := by
  rw [List.take_add_one, h, cellsOf_append]
  simp [cellsOf]
theorem cellsOf_len {bs : List Blk} (h : ∀ b ∈ bs, b.2.length ≤ 3) : (cellsOf bs).length ≤ 4 * bs.length := by
  induction bs with
  | nil => simp [cellsOf]
  | cons b r ih =>
    have h1 := h b (.head _)
    have h2 := ih fun x hx => h x (.tail _ hx)
    simp only [cellsOf, List.length_cons, List.length_append]; omega

/-- how the ledger bears a block -/
def BlkAt (bl : List (Addr × Obj)) (v : Value) (b : Blk) : Prop :=
  ∃ t a tk n1 n2 ws, v = .ref t ∧ (t, tupO #[.int b.1 tk, .ref a] n1) ∈ bl ∧ (a, listOf ws.toArray n2) ∈ bl ∧ IntsAre ws b.2
structure Blks (bl : List (Addr × Obj)) (B : Addr) (bvs : List Value) (nB : Nat) (bs : List Blk) : Prop where
  mem : (B, listOf bvs.toArray nB) ∈ bl
  len : bvs.length = bs.length
  item : ∀ (i : Nat) v b, bvs[i]? = some v → bs[i]? = some b → BlkAt bl v b

theorem lawHeap_K {B : Addr} {nB : Nat} {bl : List (Addr × Obj)} {bvs : List Value} {bs : List Blk}
    (F : Fr h₀ L s.heap m) (N : News h₀ L s.heap news) (X : (hd.heap_39 w.params).In h₀) (T : Top hd.view_39 (looseW hd.view_39 [Str.ofString "EMPTY_LIST"]) mean mg mb h₀) (o : Ok A 3)
    (hbl : ∀ p ∈ bl, p ∈ news) (bk : Blks bl B bvs nB bs) (hb3 : ∀ b ∈ bs, b.2.length ≤ 3) (hbn : bs.length ≤ 6)
    (h : ∀ hp dx cl t1 t2 t3 nc vs h' tk', Fr h₀ L h' m → News h₀ L h' ((hp, instObj 227 dx) :: (dx, heapD w cl 60 t1 t2 t3) :: (cl, listOf vs.toArray nc) :: news) → IntsAre vs (cellsOf bs) →
      (∀ p ∈ news, @Ne Nat p.1 hp) → (∀ p ∈ news, @Ne Nat p.1 dx) → (∀ p ∈ news, @Ne Nat p.1 cl) → @LT.lt Nat _ dx hp → @LT.lt Nat _ dx cl → @Ne Nat hp cl → Q (.ref hp) { s with heap := h', toks := tk' }) :
    wpAny (model PySem.Challenge.pw_nt0254_01 w) A (call (.ref 271) [.ref B]) Q E s := by
  obtain ⟨hd0, dp0, fr0, gd0, un0⟩ := A
  obtain rfl : hd0 = none := o.handled
  refine' enter (binds := [(Str.ofString "blocks", .ref B)]) bl ?X ?T ?st ?hsub ?hb ?ho ?hcd ?hroom ?hbind ?hloc ?hco ?hgen ?hk ?hcell ?_
  (case X => assumption)
  (case T => assumption)
  (case st => exact Fr.keep (by assumption))
  (case ho => k_is)
  (case hcd => k_is)
  (case hroom => exact Ok.room (by assumption))
  (case hbind => exact BindsTo.of_eq rfl)
  (case hloc => exact locs rfl)
  (case hco => exact rfl)
  (case hgen => exact rfl)
  (case hk => exact rfl)
  (case hcell => decide)
  (case hsub => exact fun q hq => (N _ (hbl q hq)).1)
  (case hb => exact fun q hq => (N _ (hbl q hq)).2.2)
  intro g L1 h₁ F' N' KX' T' lt xg
  have bkm := bk.mem
  try dsimp only
  k_steps
  all_goals (try dsimp only)
  rename Fr _ _ _ _ => Fs
  rename News _ _ _ _ => Ns
  rename (∀ p ∈ bl, p.1 < _) => lb
  rename_i hp dx cl t1 t3 nc _ _ l2 l3 _
  have lb' : ∀ p ∈ bl, p.1 ≠ dx := fun p hp => Nat.ne_of_lt (lb p hp)
  refine pyIter_listK (vs := bvs) rfl Fs Ns (News.isList Ns (.tail _ (.tail _ (.tail _ bkm)))) ?_
  intro I oI h8 It hP F8 N8 lI
  dsimp only
  have lI' : @LT.lt Nat _ dx I := lI _ (.tail _ (.head _))
  have lI2 : @LT.lt Nat _ hp I := lI _ (.head _)
  refine for_sm (L := L1) [Str.ofString "kind", Str.ofString "words"] (fun i nws => ∃ cl vs n, nws = (hp, instObj 227 dx) :: (dx, heapD w cl 60 t1 _ t3) :: (cl, listOf vs.toArray n) :: bl ∧ IntsAre vs (cellsOf (bs.take i)) ∧ @LT.lt Nat _ hp cl) It hP rfl F8 N8 lI
    ⟨cl, [], nc, rfl, .nil, l3⟩ (fun i nws h hD k N => ?_) letGo_list (fun _ _ x => x) ?_ ?_
  · obtain ⟨cl', vs', n', rfl, _⟩ := hD
    exact News.isList N (.tail _ (.tail _ (.tail _ bkm)))
  · rintro i v u nws h7 tk7 oI7 hi hV hP7 ⟨cl', vs', n', rfl, hI, hlt⟩ off F7 N7
    have hib : i < bs.length := by rw [← bk.len]; exact hi
    have hbi : bs[i]? = some bs[i] := by simp [hib]
    obtain ⟨t, a, tk, n1, n2, ws, rfl, m1, m2, hw⟩ := bk.item i v _ hV hbi
    have hl3 := hb3 _ (List.getElem_mem hib)
    have hc1 := cellsOf_len (bs := bs.take i) fun b hb => hb3 b (List.mem_of_mem_take hb)
    have hc2 : (bs.take i).length ≤ 6 := by rw [List.length_take]; omega
    clear F8 N8 Fs Ns
    (try dsimp only)
    k_steps
    all_goals (try dsimp only)
    rename News _ _ _ _ => Nz
    rename IntsAre _ _ => hZ
    rename (_ ∧ _) => lz
    refine TPs.intro ((hp, instObj 227 dx) :: (dx, heapD w _ 60 t1 _ t3) :: (_, listOf _ 0) :: bl) (by assumption) Nz (by walk_at "nt sub") ?_ (by walk_at "nt same") ⟨_, _, _, rfl, by rw [cellsOf_take hbi]; exact hZ, by refine ltN ?_; omega⟩
    refine List.forall_mem_cons.mpr ⟨off _ (.head _), List.forall_mem_cons.mpr ⟨(show dx ≠ I from off (dx, heapD w cl' 60 t1 _ t3) (.tail _ (.head _))), List.forall_mem_cons.mpr ⟨?_, fun p hp => off p (.tail _ (.tail _ (.tail _ hp)))⟩⟩⟩
    refine neN ?_
    dsimp only
    omega
  · rintro u nws h7 tk7 ⟨cl', vs', n', rfl, hI, hlt⟩ off F7 N7
    clear F8 N8 Fs Ns
    (try dsimp only)
    k_steps
    all_goals (try dsimp only)
    refine Lv.intro (by assumption) fun x => ?_
    have mb : ∀ p ∈ bl, (p : Addr × Obj) ∈ (hp, instObj 227 dx) :: (dx, heapD w cl' 60 t1 (s.toks + [(Str.ofString "blocks", Value.ref B)].length) t3) :: (cl', listOf vs'.toArray n') :: bl := fun p h => .tail _ (.tail _ (.tail _ h))
    obtain ⟨F2, N2⟩ := ro_back F N hbl x (fun p h => (N7 p (mb p h)).1)
    have l3' : @LT.lt Nat _ dx cl' := Nat.lt_trans l2 hlt
    have e1 : dx ∉ bl.map (·.1) := off_map lb
    have e2 : hp ∉ bl.map (·.1) := off_map fun p h => Nat.lt_trans (lb p h) l2
    have e3 : cl' ∉ bl.map (·.1) := off_map fun p h => Nat.lt_trans (lb p h) l3'
    have n1 := N7 _ (.head _)
    have n2 := N7 _ (.tail _ (.head _))
    have n3 := N7 _ (.tail _ (.tail _ (.head _)))
    obtain ⟨a1, a2, a3⟩ := fresh_of F N xg n1.2.2 e2
    obtain ⟨b1, b2, b3⟩ := fresh_of F N xg n2.2.2 e1
    obtain ⟨c1, c2, c3⟩ := fresh_of F N xg n3.2.2 e3
    rw [show bs.take bvs.length = bs by rw [bk.len]; simp] at hI
    exact h _ _ _ _ _ _ _ _ _ _ F2 (news_cons (news_cons (news_cons N2 n3.1 ⟨c1, c2⟩) n2.1 ⟨b1, b2⟩) n1.1 ⟨a1, a2⟩) hI a3 b3 c3 l2 l3' (Nat.ne_of_lt hlt)


/-! the plain law: no program in sight -/
/-- the starts of blocks that stand from a place on -/
def zsOf : Nat → List Blk → List Int
  | _, [] => []
  | a, b :: r => (a : Int) :: zsOf (a + 1 + b.2.length) r
theorem zsOf_len : ∀ (a : Nat) (bs : List Blk), (zsOf a bs).length = bs.length
  | _, [] => rfl
  | a, b :: r => by rw [zsOf, List.length_cons, List.length_cons, zsOf_len]
theorem zsOf_append : ∀ (a : Nat) (bs cs : List Blk), zsOf a (bs ++ cs) = zsOf a bs ++ zsOf (a + (cellsOf bs).length) cs
  | a, [], cs => by simp [zsOf, cellsOf]
  | a, b :: r, cs => by
    rw [List.cons_append, zsOf, zsOf, zsOf_append, List.cons_append]
    congr 3
    simp [cellsOf]; omega
theorem zsOf_mem : ∀ {a : Nat} {bs : List Blk} {z : Int}, z ∈ zsOf a bs → (a : Int) ≤ z ∧ z < ((a + (cellsOf bs).length : Nat) : Int)
  | a, [], z, h => by cases h
  | a, b :: r, z, h => by
    have e : (cellsOf (b :: r)).length = 1 + b.2.length + (cellsOf r).length := by simp [cellsOf]; omega
    rw [e]
    rcases List.mem_cons.mp h with rfl | h
    · omega
    · have := zsOf_mem h; omega

/-- a kind and a length that go together -/
def GoodKL (k : Int) (l : Nat) : Prop := 0 ≤ k ∧ k < 8 ∧ (sizesL.getD k.toNat 0 < 0 ∨ (l : Int) = sizesL.getD k.toNat 0) ∧ l ≤ 3
def GoodBlk (zs : List Int) (b : Blk) : Prop := GoodKL b.1 b.2.length ∧ ∀ x ∈ b.2, GoodWord zs x
theorem hdrW_facts {b : Blk} (h : GoodKL b.1 b.2.length) : hdrW b % 8 = 5 ∧ hdrW b / 8 % 16 = b.1 ∧ hdrW b / 8 / 16 = (b.2.length : Int) ∧ 0 ≤ hdrW b ∧ hdrW b ≤ 100000 := by
  obtain ⟨h1, h2, _, h4⟩ := h
  unfold hdrW
  generalize (b.2.length : Nat) = n at *
  generalize b.1 = k at *
  refine ⟨by omega, by omega, by omega, by omega, by omega⟩

theorem getD_at (lead t : List Int) (x : Int) : (lead ++ x :: t).getD lead.length 0 = x := by simp [List.getD]
theorem scan_pre : ∀ (pre : List Blk) (lead t zs : List Int) (e : Option Nat), (∀ b ∈ pre, GoodKL b.1 b.2.length) → Scan (lead ++ cellsOf pre ++ t) (lead.length + (cellsOf pre).length) zs e →
    Scan (lead ++ cellsOf pre ++ t) lead.length (zsOf lead.length pre ++ zs) e
  | [], lead, t, zs, e, _, h => by simpa [cellsOf, zsOf] using h
  | b :: r, lead, t, zs, e, hg, h => by
    obtain ⟨f1, _, f3, f4, f5⟩ := hdrW_facts (hg b (.head _))
    have e1 : lead ++ cellsOf (b :: r) ++ t = (lead ++ hdrW b :: b.2) ++ cellsOf r ++ t := by simp [cellsOf]
    have e2 : (lead ++ hdrW b :: b.2).length = lead.length + 1 + b.2.length := by simp; omega
    have e3 : lead.length + (cellsOf (b :: r)).length = (lead ++ hdrW b :: b.2).length + (cellsOf r).length := by rw [e2]; simp [cellsOf]; omega
    rw [e3, e1] at h
    have ih := scan_pre r (lead ++ hdrW b :: b.2) t zs e (fun x hx => hg x (.tail _ hx)) h
    rw [← e1, e2] at ih
    have g : (lead ++ cellsOf (b :: r) ++ t).getD lead.length 0 = hdrW b := by
      have : lead ++ cellsOf (b :: r) ++ t = lead ++ hdrW b :: (b.2 ++ cellsOf r ++ t) := by simp [cellsOf]
      rw [this, getD_at]
    rw [zsOf, List.cons_append]
    refine .step (by simp [cellsOf]) (by rw [g]; exact f1) (by rw [g]; exact f4) (by rw [g]; exact f5) ?_
    rw [g, f3]
    simpa using ih
theorem badWord_good {zs : List Int} : ∀ {ws : List Int}, (∀ x ∈ ws, GoodWord zs x) → badWord zs ws = none
  | [], _ => rfl
  | x :: r, h => by
    obtain ⟨h1, h2, h3⟩ := h x (.head _)
    rw [badWord_ok ⟨h1, h2⟩ (fun q => q.2 (h3 q.1))]
    exact badWord_good fun y hy => h y (.tail _ hy)
theorem badWord_app {zs : List Int} : ∀ {ws : List Int} {r : List Int}, (∀ x ∈ ws, GoodWord zs x) → badWord zs (ws ++ r) = badWord zs r
  | [], _, _ => rfl
  | x :: s, r, h => by
    obtain ⟨h1, h2, h3⟩ := h x (.head _)
    rw [List.cons_append, badWord_ok ⟨h1, h2⟩ (fun q => q.2 (h3 q.1))]
    exact badWord_app fun y hy => h y (.tail _ hy)
/-- what wrong_block tells of a block with header x and words ws -/
theorem wrongF_at {zs lead ws t : List Int} {x : Int} (hx : x / 8 / 16 = (ws.length : Int)) : wrongF (lead ++ x :: (ws ++ t)) zs lead.length =
    if 8 ≤ x / 8 % 16 then some "kind" else if 0 ≤ sizesL.getD (x / 8 % 16).toNat 0 ∧ x / 8 / 16 ≠ sizesL.getD (x / 8 % 16).toNat 0 then some "length" else badWord zs ws := by
  unfold wrongF
  rw [getD_at]
  split
  · rfl
  split
  · rfl
  rw [if_neg (by rw [hx]; simp; omega), hx]
  refine congrArg _ ?_
  have : lead ++ x :: (ws ++ t) = (lead ++ [x]) ++ (ws ++ t) := by simp
  rw [this, show lead.length + 1 = (lead ++ [x]).length by simp, List.drop_left]
  simp
theorem wrongF_good {zs lead t : List Int} {b : Blk} (h : GoodBlk zs b) : wrongF (lead ++ hdrW b :: (b.2 ++ t)) zs lead.length = none := by
  obtain ⟨hk, hw⟩ := h
  obtain ⟨_, f2, f3, _, _⟩ := hdrW_facts hk
  obtain ⟨k1, k2, k3, _⟩ := hk
  rw [wrongF_at f3, f2, f3, if_neg (by omega), if_neg (by omega)]
  exact badWord_good hw
theorem firstF_pre {all : List Int} : ∀ (pre : List Blk) (lead t rest : List Int), (∀ b ∈ pre, GoodBlk all b) →
    firstF (lead ++ cellsOf pre ++ t) all (zsOf lead.length pre ++ rest) = firstF (lead ++ cellsOf pre ++ t) all rest
  | [], lead, t, rest, _ => by simp [zsOf]
  | b :: r, lead, t, rest, h => by
    have e1 : lead ++ cellsOf (b :: r) ++ t = (lead ++ hdrW b :: b.2) ++ cellsOf r ++ t := by simp [cellsOf]
    have e2 : (lead ++ hdrW b :: b.2).length = lead.length + 1 + b.2.length := by simp; omega
    have e4 : lead ++ cellsOf (b :: r) ++ t = lead ++ hdrW b :: (b.2 ++ (cellsOf r ++ t)) := by simp [cellsOf]
    have ih := firstF_pre r (lead ++ hdrW b :: b.2) t rest (fun x hx => h x (.tail _ hx))
    rw [← e1, e2] at ih
    rw [zsOf, List.cons_append, firstF_none, ih]
    rw [Int.toNat_natCast, e4]
    exact wrongF_good (h b (.head _))

/-- the blocks that the law draws -/
structure Whole (bs : List Blk) : Prop where
  two : 2 ≤ bs.length
  six : bs.length ≤ 6
  good : ∀ b ∈ bs, GoodBlk (zsOf 0 bs) b
theorem Whole.cells {bs : List Blk} (h : Whole bs) : (cellsOf bs).length ≤ 24 := by
  have := cellsOf_len (bs := bs) fun b hb => (h.good b hb).1.2.2.2
  have := h.six
  omega
theorem Whole.scan {bs : List Blk} (h : Whole bs) : Scan (cellsOf bs) 0 (zsOf 0 bs) none := by
  have := scan_pre bs [] [] [] none (fun b hb => (h.good b hb).1) (.stop (by simp))
  simpa using this
theorem Whole.none {bs : List Blk} (h : Whole bs) : errF (cellsOf bs) (zsOf 0 bs) none = none := by
  have := firstF_pre (all := zsOf 0 bs) bs [] [] [] h.good
  unfold errF
  simpa [firstF] using this

/-- what is due: the cells lead to this answer -/
structure Due (cs : List Int) (a : Int) (x : String) : Prop where
  len : cs.length ≤ 1000
  scan : ∃ zs e, Scan cs 0 zs e ∧ errF cs zs e = some (a, x)

section
variable {bs pre post : List Blk} {b : Blk} (h : Whole bs) (hs : bs = pre ++ b :: post)
include h hs
theorem due_split : (∀ c ∈ pre, GoodBlk (zsOf 0 bs) c) ∧ GoodBlk (zsOf 0 bs) b ∧ (∀ c ∈ post, GoodBlk (zsOf 0 bs) c) ∧ zsOf 0 bs = zsOf 0 pre ++ ((cellsOf pre).length : Int) :: zsOf ((cellsOf pre).length + 1 + b.2.length) post ∧ cellsOf bs = cellsOf pre ++ hdrW b :: (b.2 ++ cellsOf post) := by
  refine ⟨fun c hc => h.good c ?_, h.good b ?_, fun c hc => h.good c ?_, ?_, ?_⟩
  · rw [hs]; exact List.mem_append_left _ hc
  · rw [hs]; exact List.mem_append_right _ (.head _)
  · rw [hs]; exact List.mem_append_right _ (.tail _ hc)
  · rw [hs, zsOf_append, Nat.zero_add]; rfl
  · rw [hs, cellsOf_append]; rfl
theorem due_len {x : Int} {ws : List Int} (hw : ws.length = b.2.length) : (cellsOf pre ++ x :: (ws ++ cellsOf post)).length ≤ 1000 := by
  have e := (due_split h hs).2.2.2.2
  have := h.cells
  rw [e] at this
  simp at this ⊢; omega
/-- a header that is none -/
theorem due_header {x : Int} (hx : x % 8 ≠ 5) : Due (cellsOf pre ++ x :: (b.2 ++ cellsOf post)) ((cellsOf pre).length : Int) "header" := by
  obtain ⟨g1, g2, g3, ez, _⟩ := due_split h hs
  refine ⟨due_len h hs rfl, zsOf 0 pre ++ [], some (cellsOf pre).length, ?_, rfl⟩
  have := scan_pre pre [] (x :: (b.2 ++ cellsOf post)) [] (some (cellsOf pre).length) (fun c hc => (g1 c hc).1) (by
    simp only [List.nil_append, List.length_nil, Nat.zero_add]
    exact .bad (by simp) (by rw [getD_at]; exact hx))
  simpa using this
/-- another header or other words, the length as it was -/
theorem due_scan {x : Int} {ws : List Int} (h5 : x % 8 = 5) (h0 : 0 ≤ x) (h1 : x ≤ 100000) (hl : x / 8 / 16 = (b.2.length : Int)) (hw : ws.length = b.2.length) : Scan (cellsOf pre ++ x :: (ws ++ cellsOf post)) 0 (zsOf 0 bs) none := by
  obtain ⟨g1, g2, g3, ez, _⟩ := due_split h hs
  rw [ez]
  have s1 := scan_pre post (cellsOf pre ++ x :: ws) [] [] none (fun c hc => (g3 c hc).1) (.stop (by simp; omega))
  have s2 := scan_pre pre [] (x :: (ws ++ cellsOf post)) (((cellsOf pre).length : Int) :: zsOf ((cellsOf pre).length + 1 + b.2.length) post) none (fun c hc => (g1 c hc).1) (by
    simp only [List.nil_append, List.length_nil, Nat.zero_add]
    refine .step (by simp) (by rw [getD_at]; exact h5) (by rw [getD_at]; exact h0) (by rw [getD_at]; exact h1) ?_
    rw [getD_at, hl]
    have e : (cellsOf pre ++ x :: ws).length = (cellsOf pre).length + 1 + b.2.length := by simp [hw]; omega
    rw [e] at s1
    simpa using s1)
  simpa using s2
theorem due_first {x : Int} {ws : List Int} {y : String} (h5 : x % 8 = 5) (h0 : 0 ≤ x) (h1 : x ≤ 100000) (hl : x / 8 / 16 = (b.2.length : Int)) (hw : ws.length = b.2.length)
    (hy : (if 8 ≤ x / 8 % 16 then some "kind" else if 0 ≤ sizesL.getD (x / 8 % 16).toNat 0 ∧ x / 8 / 16 ≠ sizesL.getD (x / 8 % 16).toNat 0 then some "length" else badWord (zsOf 0 bs) ws) = some y) :
    Due (cellsOf pre ++ x :: (ws ++ cellsOf post)) ((cellsOf pre).length : Int) y := by
  obtain ⟨g1, g2, g3, ez, _⟩ := due_split h hs
  refine ⟨due_len h hs hw, zsOf 0 bs, none, due_scan h hs h5 h0 h1 hl hw, ?_⟩
  have f := firstF_pre (all := zsOf 0 bs) pre [] (x :: (ws ++ cellsOf post)) (((cellsOf pre).length : Int) :: zsOf ((cellsOf pre).length + 1 + b.2.length) post) g1
  simp only [List.nil_append, List.length_nil] at f
  rw [← ez] at f
  show firstF _ _ _ = _
  rw [f]
  refine firstF_some ?_
  rw [Int.toNat_natCast, wrongF_at (by rw [hl, hw])]
  exact hy
theorem due_kind {k : Int} (h0 : 0 ≤ k) (h1 : k < 8) : Due (cellsOf pre ++ (((b.2.length : Int) * 16 + (8 + k)) * 8 + 5) :: (b.2 ++ cellsOf post)) ((cellsOf pre).length : Int) "kind" := by
  have hl := (due_split h hs).2.1.1.2.2.2
  refine due_first h hs (by omega) (by omega) (by omega) (by omega) rfl ?_
  rw [if_pos (by omega)]
theorem due_length {k : Int} (hk : k = if (b.2.length : Int) = 2 then 4 else 0) : Due (cellsOf pre ++ (((b.2.length : Int) * 16 + k) * 8 + 5) :: (b.2 ++ cellsOf post)) ((cellsOf pre).length : Int) "length" := by
  have hl := (due_split h hs).2.1.1.2.2.2
  have hk2 : k = 4 ∧ (b.2.length : Int) = 2 ∨ k = 0 ∧ (b.2.length : Int) ≠ 2 := by
    split at hk
    · exact .inl ⟨hk, by assumption⟩
    · exact .inr ⟨hk, by assumption⟩
  refine due_first h hs (by omega) (by omega) (by omega) (by omega) rfl ?_
  have e1 : (((b.2.length : Int) * 16 + k) * 8 + 5) / 8 % 16 = k := by omega
  have e2 : (((b.2.length : Int) * 16 + k) * 8 + 5) / 8 / 16 = (b.2.length : Int) := by omega
  rw [e1, e2, if_neg (by omega), if_pos]
  rcases hk2 with ⟨rfl, q⟩ | ⟨rfl, q⟩
  · rw [q]; decide
  · exact ⟨by decide, fun z => q z⟩
theorem due_word {r : Nat} {y : Int} {t : String} (hr : r < b.2.length) (hy : ∀ rest, badWord (zsOf 0 bs) (y :: rest) = some t) : Due (cellsOf pre ++ hdrW b :: (b.2.set r y ++ cellsOf post)) ((cellsOf pre).length : Int) t := by
  obtain ⟨g1, g2, g3, ez, _⟩ := due_split h hs
  obtain ⟨f1, f2, f3, f4, f5⟩ := hdrW_facts g2.1
  obtain ⟨k1, k2, k3, _⟩ := g2.1
  refine due_first h hs f1 f4 f5 f3 (by simp) ?_
  rw [f2, f3, if_neg (by omega), if_neg (by omega)]
  have e : b.2.set r y = b.2.take r ++ y :: b.2.drop (r + 1) := by
    rw [List.set_eq_take_append_cons_drop, if_pos hr]
  rw [e, badWord_app (fun x hx => g2.2 x (List.mem_of_mem_take hx))]
  exact hy _
theorem due_field {r : Nat} {y : Int} (hr : r < b.2.length) (hy : y % 8 = 5 ∨ y % 8 = 6) : Due (cellsOf pre ++ hdrW b :: (b.2.set r y ++ cellsOf post)) ((cellsOf pre).length : Int) "field" :=
  due_word h hs hr fun _ => badWord_field (by omega)
theorem due_reference {r : Nat} {q : Int} (hr : r < b.2.length) (hq : q = ((cellsOf pre).length : Int) + 1 ∨ q = ((cellsOf bs).length : Int) ∨ q = ((cellsOf bs).length : Int) + 7 ∨ q = -1) :
    Due (cellsOf pre ++ hdrW b :: (b.2.set r (q * 8 + 1) ++ cellsOf post)) ((cellsOf pre).length : Int) "reference" := by
  refine due_word h hs hr fun _ => badWord_ref (by omega) (by omega) ?_
  rw [show (q * 8 + 1) / 8 = q by omega]
  intro hm
  have hb := zsOf_mem hm
  rcases hq with hq | hq
  · rw [(due_split h hs).2.2.2.1] at hm
    rcases List.mem_append.mp hm with hm | hm
    · have := zsOf_mem hm; omega
    · rcases List.mem_cons.mp hm with hm | hm
      · omega
      · have := zsOf_mem hm; omega
  · omega
theorem due_end (hp : post = []) {r : Int} (h0 : 0 ≤ r) (h1 : r < 3) : Due (cellsOf pre ++ ((((b.2.length : Int) + 1 + r) * 16 + 1) * 8 + 5) :: (b.2 ++ cellsOf post)) ((cellsOf pre).length : Int) "end" := by
  obtain ⟨g1, g2, g3, ez, _⟩ := due_split h hs
  have hl := g2.1.2.2.2
  refine ⟨due_len h hs rfl, zsOf 0 bs, none, ?_, ?_⟩
  · rw [ez, hp]
    have s2 := scan_pre pre [] (((((b.2.length : Int) + 1 + r) * 16 + 1) * 8 + 5) :: (b.2 ++ cellsOf [])) (((cellsOf pre).length : Int) :: zsOf ((cellsOf pre).length + 1 + b.2.length) []) none (fun c hc => (g1 c hc).1) (by
      simp only [List.nil_append, List.length_nil, Nat.zero_add]
      refine .step (by simp) (by rw [getD_at]; omega) (by rw [getD_at]; omega) (by rw [getD_at]; omega) ?_
      rw [getD_at]
      refine .stop ?_
      simp [cellsOf]; omega)
    simpa using s2
  · have f := firstF_pre (all := zsOf 0 bs) pre [] (((((b.2.length : Int) + 1 + r) * 16 + 1) * 8 + 5) :: (b.2 ++ cellsOf post)) (((cellsOf pre).length : Int) :: zsOf ((cellsOf pre).length + 1 + b.2.length) post) g1
    simp only [List.nil_append, List.length_nil] at f
    rw [← ez] at f
    show firstF _ _ _ = _
    rw [f]
    refine firstF_some ?_
    rw [Int.toNat_natCast]
    unfold wrongF
    rw [getD_at]
    have e1 : ((((b.2.length : Int) + 1 + r) * 16 + 1) * 8 + 5) / 8 % 16 = 1 := by omega
    have e2 : ((((b.2.length : Int) + 1 + r) * 16 + 1) * 8 + 5) / 8 / 16 = (b.2.length : Int) + 1 + r := by omega
    rw [e1, e2, if_neg (by omega), if_neg (fun z => absurd z.1 (by decide)), if_pos]
    rw [hp]; simp [cellsOf]; omega
end


/-- entering a def of the text that keeps cells -/
theorem enterC {w : World} {A : Around} {s : Shared} {K : Frag} {mean : ExcName → Option Value} {mg mb : Str → Option Value} {b : Heap} {p : Program} {loose : List Str}
    {f : Addr} {vs : List Value} {name qual : Str} {params : Arguments} {body : List Stmt} {scope : Scope} {dV kV doc pm cdv ct oc : Value} {an od : Option Addr} {osl : Array (Option Value)} {binds : List (Str × Value)} {Q : Value → Shared → Prop} {E : Value → Shared → Prop} {prog : Program}
    (sub : List (Addr × Obj)) (X : K.In b) (T : Top p loose mean mg mb b) (st : b.StaysIn s.heap) (hsub : ∀ q ∈ sub, s.heap.get? q.1 = some q.2) (hb : ∀ q ∈ sub, b.get? q.1 = none)
    (ho : K.lookup f = some ⟨oc, od, .func (fnOf name qual params body scope dV kV doc pm an cdv ct), osl⟩) (hcd : codeIn K cdv qual = true) (hroom : A.depth < recursionLimit)
    (hbind : BindsTo s (fnOf name qual params body scope dV kV doc pm an cdv ct) ⟨vs, []⟩ binds) (hkind : (binds.all fun y => scope.names.lookup y.1 == some .local || scope.names.lookup y.1 == some .cell) = true)
    (hnd : ((cellsFrom 0 scope.names []).map (·.1)).Nodup)
    (hco : scope.isCoroutine = false) (hgen : scope.isGenerator = false) (hk : scope.kind = .function)
    (h : ∀ g L h₁ tk cells, Fr g L h₁ (bindL (envOfC qual scope L f cdv).kindOf binds fun _ => none) → News g L h₁ (cells ++ sub) →
      CellsAre (bindC (envOfC qual scope L f cdv).kindOf binds fun _ => none) (cellsFrom (L + 1) scope.names []) cells → K.In g → Top p loose mean mg mb g → (∀ a o, s.heap.get? a = some o → a < L) → ExtB (sub.map (·.1)) s.heap g →
      wpAny (model prog w) (A.deeper (envOfC qual scope L f cdv)) (execs body (envOfC qual scope L f cdv))
        (fun fl s' => Lv g L (sub.map (·.1)) s.heap Q (match fl with | .ret v => v | _ => .none) s') No
        { s with heap := h₁, toks := tk })
    : wpAny (model prog w) A (call (.ref f) vs) Q E s := by
  refine wpAny_call (codeAny_call_function (fd := fnOf name qual params body scope dV kV doc pm an cdv ct) (body := body) hroom (st _ _ (X _ _ ho)) rfl hco hgen rfl (codeRec_of (X.keeps st) hcd) (hbind _ _ _ _ ?_))
  have nm : ∀ a o, b.get? a = some o → a ∉ sub.map (·.1) := fun a o e q => by
    obtain ⟨q, hq, rfl⟩ := List.mem_map.mp q
    rw [hb _ hq] at e; cases e
  have sg : b.StaysIn (hideAll s.heap (sub.map (·.1))) := fun a o e => hideAll_get _ (st a o e) (nm a o e)
  have xg : ExtB (sub.map (·.1)) s.heap (hideAll s.heap (sub.map (·.1))) := fun a o n e => hideAll_get _ e n
  refine wpAny_newFunctionEnv_cells hk (kindsX hkind _) fun env' he s' x => ?_
  subst he
  refine ⟨(T.nolimit.keeps st).keeps x.toInCall.keep, codeAny_func ?_⟩
  obtain ⟨h₁, tk, rfl, _⟩ := x.done
  have hk₁ := x.toInCall.keep
  obtain ⟨cells, NC, Y⟩ := Cl.news (h₀ := s.heap) (Nat.le_refl _) fun n c hm => ⟨x.cell n c (lookup_of_mem_nodup (cellsFrom_names scope.names 0 (s.heap.objs.size + 1) [] [] rfl ▸ hnd) hm), x.above n c hm⟩
  refine wpAny_mono (h _ s.heap.objs.size h₁ tk cells ⟨x.toInCall.ns, fun b o e => hk₁ b o (of_hideAll _ e), Nat.le_of_eq (hideAll_size _ _)⟩ (fun p hp => ?_) Y (X.keeps sg) (T.keeps sg) (fun a o e => Heap.lt_size e) xg) (fun fl s' hl => ?_) fun _ _ y => y.elim
  · rcases List.mem_append.mp hp with hp | hp
    · refine ⟨(NC p hp).1, (NC p hp).2.1, ?_⟩
      cases q : (hideAll s.heap (sub.map (·.1))).get? p.1 with
      | none => rfl
      | some o => have := of_hideAll _ q; rw [(NC p hp).2.2] at this; cases this
    · exact ⟨hk₁ _ _ (hsub p hp), Nat.ne_of_lt (Heap.lt_size (hsub p hp)), hideAll_none _ (List.mem_map_of_mem hp)⟩
  · obtain ⟨m', F', k⟩ := hl
    exact k fun a o n e => F'.keep a o (xg a o n e)

/-- a comprehension by an invariant over what is made so far and the ledger -/
theorem comp_inv {prog : Program} {env : Env} {elt : Expr} {x : Str} {scope : Scope} {cl : List (Str × Addr)} {S : List (Addr × Obj) → Prop} {P : Nat → Value → Prop} {Fin : List Value → List (Addr × Obj) → Prop} {n : Nat}
    (D : Nat → List Value → List (Addr × Obj) → Prop) (h0 : D 0 [] news) (fin : ∀ ys nws, D n ys nws → Fin ys nws)
    (turn : ∀ i v ys nws I oI C oC Dd m₂ h tk (E' : Value → Shared → Prop), i < n → P i v → D i ys nws → LCg.NsObj oC m₂ → m₂ x = some v → Fr h₀ L h m → News h₀ L h ((I, oI) :: (C, oC) :: (Dd, LCg.lst ys) :: nws) → LCg.Off3 I C Dd nws → ((@Ne Nat I C) ∧ (@Ne Nat I Dd) ∧ (@Ne Nat C Dd)) →
      wpAny (model prog w) A (eval elt (compEnvC scope cl C env)) (LCg.CompEnd h₀ L m { s with heap := h, toks := tk } I oI C oC Dd (LCg.lst ys) S (fun y nws' => D (i + 1) (ys ++ [y]) nws')) E' { s with heap := h, toks := tk }) :
    LCg.CompRest prog w A h₀ L m env elt x scope cl s S P Fin n 0 [] news := by
  have go : ∀ k i ys nws, i + k = n → D i ys nws → LCg.CompRest prog w A h₀ L m env elt x scope cl s S P Fin k i ys nws := by
    intro k
    induction k with
    | zero =>
      intro i ys nws e hD
      have e' : i = n := by omega
      exact LCg.CompRest.zero (fin ys nws (e' ▸ hD))
    | succ k ih =>
      intro i ys nws e hD
      refine LCg.CompRest.succ ?_
      intro v I oI C oC Dd m₂ h tk E' hv hC hx F N off ne
      refine wpAny_mono (turn i v ys nws I oI C oC Dd m₂ h tk E' (by omega) hv hD hC hx F N off ne) (fun y s₂ hq => ?_) fun _ _ e => e
      obtain ⟨h', tk', nw, e1, F', N', off', hS, hD'⟩ := hq
      exact ⟨h', tk', nw, e1, F', N', off', hS, ih (i + 1) _ nw (by omega) hD'⟩
  exact go n 0 [] news (by omega) h0


section P12
/-- how the ledger bears a pair of ints -/
def RowAt (bl : List (Addr × Obj)) (v : Value) (k : Int × Int) : Prop := ∃ t tk tl n1, v = .ref t ∧ (t, tupO #[.int k.1 tk, .int k.2 tl] n1) ∈ bl
structure Rows (bl : List (Addr × Obj)) (vs : List Value) (ks : List (Int × Int)) : Prop where
  len : vs.length = ks.length
  item : ∀ (i : Nat) v k, vs[i]? = some v → ks[i]? = some k → RowAt bl v k
theorem Rows.nil : Rows [] [] [] := ⟨rfl, fun i v k h => by simp at h⟩
theorem Rows.snoc {bl : List (Addr × Obj)} {vs : List Value} {ks : List (Int × Int)} {t : Addr} {a b : Int} {ta tb : Tok} {n : Nat} (R : Rows bl vs ks) : Rows ((t, tupO #[.int a ta, .int b tb] n) :: bl) (vs ++ [.ref t]) (ks ++ [(a, b)]) := by
  refine ⟨by simp [R.len], fun i v k hv hk => ?_⟩
  by_cases hi : i < vs.length
  · rw [List.getElem?_append_left hi] at hv
    rw [List.getElem?_append_left (R.len ▸ hi)] at hk
    obtain ⟨t, tk, tl, n1, e, h⟩ := R.item i v k hv hk
    exact ⟨t, tk, tl, n1, e, .tail _ h⟩
  · have h1 : i < (vs ++ [Value.ref t]).length := (List.getElem?_eq_some_iff.mp hv).1
    rw [List.length_append, List.length_singleton] at h1
    have e : i = vs.length := by omega
    subst e
    rw [List.getElem?_append_right (Nat.le_refl _), Nat.sub_self] at hv
    rw [R.len, List.getElem?_append_right (Nat.le_refl _), Nat.sub_self] at hk
    cases hv; cases hk
    exact ⟨t, ta, tb, n, rfl, .head _⟩

/-- a kind, and a length that goes with it -/
def GoodK (k : Int × Int) : Prop := 0 ≤ k.2 ∧ GoodKL k.1 k.2.toNat

theorem goodK_menu {k a b e : Int} (h1 : 0 ≤ k) (h2 : k < 8) (a1 : 0 ≤ a) (a2 : a < 4) (b1 : 0 ≤ b) (b2 : b < 4) (e1 : 0 ≤ e) (e2 : e < 3) : GoodK (k, [2, a, b, 1 + e, 1, 2, 2, 2].getD k.toNat 0) := by
  have hk : k = 0 ∨ k = 1 ∨ k = 2 ∨ k = 3 ∨ k = 4 ∨ k = 5 ∨ k = 6 ∨ k = 7 := by omega
  rcases hk with rfl | rfl | rfl | rfl | rfl | rfl | rfl | rfl
  · show GoodK (0, 2); exact ⟨by decide, by decide, by decide, .inr (by decide), by decide⟩
  · show GoodK (1, a); exact ⟨a1, show (0 : Int) ≤ 1 by decide, show (1 : Int) < 8 by decide, .inl (show sizesL.getD (1 : Int).toNat 0 < 0 by decide), (show a.toNat ≤ 3 by omega)⟩
  · show GoodK (2, b); exact ⟨b1, show (0 : Int) ≤ 2 by decide, show (2 : Int) < 8 by decide, .inl (show sizesL.getD (2 : Int).toNat 0 < 0 by decide), (show b.toNat ≤ 3 by omega)⟩
  · show GoodK (3, 1 + e); exact ⟨(show 0 ≤ 1 + e by omega), show (0 : Int) ≤ 3 by decide, show (3 : Int) < 8 by decide, .inl (show sizesL.getD (3 : Int).toNat 0 < 0 by decide), (show (1 + e).toNat ≤ 3 by omega)⟩
  · show GoodK (4, 1); exact ⟨by decide, by decide, by decide, .inr (by decide), by decide⟩
  · show GoodK (5, 2); exact ⟨by decide, by decide, by decide, .inr (by decide), by decide⟩
  · show GoodK (6, 2); exact ⟨by decide, by decide, by decide, .inr (by decide), by decide⟩
  · show GoodK (7, 2); exact ⟨by decide, by decide, by decide, .inr (by decide), by decide⟩

/-- the starts that the kinds and lengths lead to -/
def zsL : Int → List (Int × Int) → List Int
  | _, [] => []
  | a, k :: r => a :: zsL (a + 1 + k.2) r
theorem zsL_len : ∀ (a : Int) (ks : List (Int × Int)), (zsL a ks).length = ks.length
  | _, [] => rfl
  | a, k :: r => by rw [zsL, List.length_cons, List.length_cons, zsL_len]
/-- how far the first i lead -/
def sumK1 (ks : List (Int × Int)) (i : Nat) : Int := ((ks.take i).map fun k => 1 + k.2).sum
theorem zsL_get : ∀ {a : Int} {ks : List (Int × Int)} {i : Nat}, i < ks.length → (zsL a ks)[i]? = some (a + sumK1 ks i)
  | a, k :: r, 0, _ => by simp [zsL, sumK1]
  | a, k :: r, i + 1, h => by
    have ih := zsL_get (a := a + 1 + k.2) (ks := r) (i := i) (by simpa using h)
    rw [zsL, List.getElem?_cons_succ, ih]
    simp only [sumK1, List.take_succ_cons, List.map_cons, List.sum_cons]
    congr 1; omega
theorem zsL_blocks : ∀ (a : Nat) (bs : List Blk), zsL (a : Int) (bs.map fun b => (b.1, (b.2.length : Int))) = zsOf a bs
  | _, [] => rfl
  | a, b :: r => by
    rw [List.map_cons, zsL, zsOf]
    have ih := zsL_blocks (a + 1 + b.2.length) r
    rw [show ((a + 1 + b.2.length : Nat) : Int) = (a : Int) + 1 + (b.2.length : Int) by omega] at ih
    rw [ih]

theorem Rows.mono {bl tl : List (Addr × Obj)} {vs : List Value} {ks : List (Int × Int)} (R : Rows bl vs ks) (h : ∀ p ∈ bl, p ∈ tl) : Rows tl vs ks :=
  ⟨R.len, fun i v k hv hk => by obtain ⟨t, tk, tl, n1, e, hm⟩ := R.item i v k hv hk; exact ⟨t, tk, tl, n1, e, h _ hm⟩⟩
/-- how the ledger bears blocks -/
structure BlkRows (tl : List (Addr × Obj)) (ys : List Value) (bs : List Blk) : Prop where
  len : ys.length = bs.length
  item : ∀ (i : Nat) v b, ys[i]? = some v → bs[i]? = some b → BlkAt tl v b
theorem BlkAt.mono {bl tl : List (Addr × Obj)} {v : Value} {b : Blk} (R : BlkAt bl v b) (h : ∀ p ∈ bl, p ∈ tl) : BlkAt tl v b := by
  obtain ⟨t, a, tk, n1, n2, ws, e, h1, h2, h3⟩ := R; exact ⟨t, a, tk, n1, n2, ws, e, h _ h1, h _ h2, h3⟩
theorem BlkRows.nil {tl : List (Addr × Obj)} : BlkRows tl [] [] := ⟨rfl, fun i v k h => by simp at h⟩
theorem BlkRows.snoc {tl : List (Addr × Obj)} {ys ws : List Value} {bs : List Blk} {xs : List Int} {t a : Addr} {k : Int} {tk : Tok} {n1 n2 : Nat} (R : BlkRows tl ys bs) (hw : IntsAre ws xs) :
    BlkRows ((t, tupO #[.int k tk, .ref a] n1) :: (a, listOf ws.toArray n2) :: tl) (ys ++ [.ref t]) (bs ++ [(k, xs)]) := by
  refine ⟨by simp [R.len], fun i v b hv hk => ?_⟩
  by_cases hi : i < ys.length
  · rw [List.getElem?_append_left hi] at hv
    rw [List.getElem?_append_left (R.len ▸ hi)] at hk
    exact (R.item i v b hv hk).mono fun p hp => .tail _ (.tail _ hp)
  · have h1 : i < (ys ++ [Value.ref t]).length := (List.getElem?_eq_some_iff.mp hv).1
    rw [List.length_append, List.length_singleton] at h1
    have e : i = ys.length := by omega
    subst e
    rw [List.getElem?_append_right (Nat.le_refl _), Nat.sub_self] at hv
    rw [R.len, List.getElem?_append_right (Nat.le_refl _), Nat.sub_self] at hk
    cases hv; cases hk
    exact ⟨t, a, tk, n1, n2, ws, rfl, .head _, .tail _ (.head _), hw⟩
theorem BlkRows.blks {tl : List (Addr × Obj)} {ys : List Value} {bs : List Blk} {B : Addr} {n : Nat} (R : BlkRows tl ys bs) : Blks ((B, listOf ys.toArray n) :: tl) B ys n bs :=
  ⟨.head _, R.len, fun i v b hv hb => (R.item i v b hv hb).mono fun p hp => .tail _ hp⟩
theorem whole_of {bs : List Blk} {ks : List (Int × Int)} (hm : bs.map (fun b => (b.1, (b.2.length : Int))) = ks) (h2 : 2 ≤ ks.length) (h6 : ks.length ≤ 6) (hG : ∀ k ∈ ks, GoodK k) (hW : ∀ b ∈ bs, ∀ x ∈ b.2, GoodWord (zsL 0 ks) x) : Whole bs := by
  have e : zsL 0 ks = zsOf 0 bs := by rw [← hm]; exact zsL_blocks 0 bs
  have l : bs.length = ks.length := by rw [← hm, List.length_map]
  refine ⟨by omega, by omega, fun b hb => ⟨?_, e ▸ hW b hb⟩⟩
  have := (hG (b.1, (b.2.length : Int)) (hm ▸ List.mem_map.mpr ⟨b, hb, rfl⟩)).2
  rw [Int.toNat_natCast] at this
  exact this
theorem fresh_news {h g h' : Heap} {L' : Addr} {ds : List Addr} {nw all : List (Addr × Obj)} (F : Fr h₀ L h m) (N : News h₀ L h news) (xg : ExtB ds h g) (Nz : News g L' h' all) (sub : ∀ p ∈ nw, p ∈ all) (hn : ∀ p ∈ nw, p.1 ∉ ds) :
    News h₀ L h' nw ∧ ∀ p ∈ nw, ∀ q ∈ news, @Ne Nat q.1 p.1 := by
  refine ⟨fun p hp => ?_, fun p hp => ?_⟩
  · obtain ⟨a, b, _⟩ := fresh_of F N xg (Nz p (sub p hp)).2.2 (hn p hp)
    exact ⟨(Nz p (sub p hp)).1, b, a⟩
  · exact (fresh_of F N xg (Nz p (sub p hp)).2.2 (hn p hp)).2.2
theorem notin2 {a d di : Addr} {od oi : Obj} (h1 : @Ne Nat a d) (h2 : @Ne Nat a di) : a ∉ [(d, od), (di, oi)].map (·.1) := fun q => by
  rcases List.mem_cons.mp q with q | q
  · exact h1 q
  · exact h2 (List.mem_singleton.mp q)
theorem cnt1 {c7 c3 c1 k : Int} {i : Nat} (h1 : c7 ≤ c3) (h2 : c3 ≤ c7 + 6 * (i : Int)) (h3 : c1 = c3 + 2 * (((k - 0).toNat : Nat) : Int)) (h4 : k.toNat ≤ 3) : c7 ≤ c1 ∧ c1 ≤ c7 + 6 * ((i + 1 : Nat) : Int) := by omega
theorem cnt2 {k : Int} {xs : List Int} (h : xs.length = (k - 0).toNat) (h0 : 0 ≤ k) : (xs.length : Int) = k := by omega
theorem cnt3 {c c1 : Int} {j : Nat} (h : c1 = c + 2 * (j : Int)) : c1 + 2 = c + 2 * ((j + 1 : Nat) : Int) := by omega
theorem map_take_snoc {bs : List Blk} {ks : List (Int × Int)} {i : Nat} {k : Int × Int} {xs : List Int} (h : bs.map (fun b => (b.1, (b.2.length : Int))) = ks.take i) (hk : ks[i]? = some k) (hx : (xs.length : Int) = k.2) :
    (bs ++ [(k.1, xs)]).map (fun b => (b.1, (b.2.length : Int))) = ks.take (i + 1) := by
  rw [List.take_add_one, hk, List.map_append, h, List.map_singleton, hx]; rfl
theorem ints_take {ys : List Value} {ks : List (Int × Int)} {i j : Nat} {k : Int × Int} {t : Tok} (h : IntsAre ys (((ks.take i).take j).map fun k => 1 + k.2)) (hj : j < i) (hk : ks[j]? = some k) : IntsAre (ys ++ [.int (1 + k.2) t]) (((ks.take i).take (j + 1)).map fun k => 1 + k.2) := by
  rw [List.take_add_one, List.getElem?_take, if_pos hj, hk, List.map_append]
  exact IntsAre.append h (.cons _ t .nil)
/-- between the turns of the last comprehension -/
def BkD (d di So S c3 c2 c1 : Addr) (oS oSo od3 od2 od1 oi : Obj) (c : Int) (nd : Nat) (vs : List Value) (ks : List (Int × Int)) (i : Nat) (ys : List Value) (nws : List (Addr × Obj)) : Prop :=
  ∃ tl bs c' tc', nws = (S, oS) :: (So, oSo) :: (c3, od3) :: (c2, od2) :: (c1, od1) :: (d, deckO di c' tc' nd) :: (di, oi) :: tl ∧ Rows tl vs ks ∧ BlkRows tl ys bs ∧ bs.map (fun b => (b.1, (b.2.length : Int))) = ks.take i ∧
    (∀ b ∈ bs, ∀ x ∈ b.2, GoodWord (zsL 0 ks) x) ∧ c ≤ c' ∧ c' ≤ c + 6 * (i : Int) ∧ (∀ p ∈ tl, @Ne Nat p.1 d ∧ @Ne Nat p.1 di)
/-- between the turns of the comprehension of words -/
def WdD (hdL : Obj → List (Addr × Obj)) (di : Addr) (c : Int) (nd : Nat) (zs : List Int) (j : Nat) (ys : List Value) (nws : List (Addr × Obj)) : Prop :=
  ∃ xs c' tc', nws = hdL (deckO di c' tc' nd) ∧ IntsAre ys xs ∧ xs.length = j ∧ (∀ x ∈ xs, GoodWord zs x) ∧ c' = c + 2 * (j : Int)
/-- between the turns of the first loop -/
def BlD (d di So c3 c2 c1 : Addr) (od3 od2 od1 oi : Obj) (c : Int) (nd : Nat) (i : Nat) (nws : List (Addr × Obj)) : Prop :=
  ∃ vs n ks bl c' tc', nws = (So, listOf (List.toArray vs) n) :: (c3, od3) :: (c2, od2) :: (c1, od1) :: (d, deckO di c' tc' nd) :: (di, oi) :: bl ∧ Rows bl vs ks ∧ ks.length = i ∧ (∀ k ∈ ks, GoodK k) ∧ c' = c + 1 + 4 * (i : Int) ∧ (∀ p ∈ bl, @LT.lt Nat _ So p.1)

theorem appendV_K {D : Addr} {n : Nat} {us : List Value} {x : Value} {news' : List (Addr × Obj)} (F : Fr h₀ L s.heap m) (N : News h₀ L s.heap news) (U : Upd D (listOf us.toArray n) (listOf (us ++ [x]).toArray (n + 1)) news news') (hz : us.length ≤ 1000)
    (h : ∀ h', Fr h₀ L h' m → News h₀ L h' news' → Q .none { s with heap := h' }) : wpAny (model PySem.Challenge.pw_nt0254_01 w) A (call (.builtin "list.append") [.ref D, x]) Q E s := by
  have e : us.toArray.push x = (us ++ [x]).toArray := by simp
  rw [← e] at U
  exact append_K F N U h (by rw [PySem.sizeLine_eq, List.size_toArray]; omega)
local macro_rules | `(tactic| walk_at "call builtin:list.append") => `(tactic| (k_here; (with_reducible show wpAny _ _ (call (Value.builtin _) [Value.ref _, _]) _ _ _); refine' appendV_K ?F ?N ?U ?hz ?_; (case F => k_asm); (case N => k_asm); (case U => k_upd); (case hz => omega); k_whole; intro h' F' N'; (try k_sweep)))
theorem sz1000 {n m : Nat} {r : Int} (h1 : n = m) (h2 : m = (2 + r - 0).toNat) (h3 : r < 5) : n ≤ 1000 := by omega
theorem nn0 {i : Nat} : 0 ≤ (0 : Int) + (i : Int) := by omega
theorem leU {i n : Nat} (h : i < ((n : Int) - 0).toNat) : (0 : Int) + (i : Int) ≤ (n : Int) := by omega
theorem lenV_K {l : Addr} {n : Nat} {us : List Value} (N : News h₀ L s.heap news) (hm : (l, listOf us.toArray n) ∈ news) (hl : us.length ≤ 1000) (h : ∀ (t : Tok) tk', Q (.int (us.length : Int) t) { s with toks := tk' }) :
    wpAny (model PySem.Challenge.pw_nt0254_01 w) A (call (.builtin "len") [.ref l]) Q E s :=
  len_list (News.isList N hm) (by rw [List.size_toArray]; omega) (by rw [List.size_toArray]; exact h _ _)
theorem upto_K {l : Addr} {n : Nat} {us : List Value} {y : Int} {ty : Tok} {value slice : Expr} (F : Fr h₀ L s.heap m) (N : News h₀ L s.heap news) (hm : (l, listOf us.toArray n) ∈ news) (h0 : 0 ≤ y) (h1 : y ≤ (us.length : Int)) (hz : us.length ≤ 1000)
    (hs : subscripted slice false (.ref l) (.ref s.heap.objs.size) = operate [.ref s.heap.objs.size, .ref l] (getItem (.ref l) (.ref s.heap.objs.size))) (ht : ∀ r, letTemporaryGo value (.ref l) r = pure ())
    (h : ∀ D h', Fr h₀ L h' m → News h₀ L h' ((D, listOf (List.toArray (us.take y.toNat)) 0) :: news) → (∀ p ∈ news, p.1 < D) → Q (.ref D) { s with heap := h' }) :
    wpAny (model PySem.Challenge.pw_nt0254_01 w) A (subscriptTail value slice (.ref l) (.ref s.heap.objs.size)) Q E { s with heap := s.heap.push { cls := .type "slice", data := .fields #[.none, .int y ty, .none] } } := by
  refine kms_slice_lit F N (News.isList N hm) .none (.int y ty) ?_ h hs ht (by rw [PySem.sizeLine_eq, List.size_toArray]; omega)
  unfold kms_pick kms_lo kms_hi
  simp only [Nat.sub_zero, List.drop_zero]
  rw [if_neg (by omega), Nat.min_eq_left (by omega)]
local macro_rules | `(tactic| walk_at "call builtin:len") => `(tactic| (k_here; (with_reducible show wpAny _ _ (call (Value.builtin "len") [Value.ref _]) _ _ _); k_dflt (refine' lenV_K ?N ?hm ?hl ?_; (case N => k_asm); (case hm => k_mem); (case hl => first | exact sz1000 (by assumption) (by assumption) (by assumption) | (refine sz1000 ?_ (by assumption) (by assumption); assumption) | omega)); intro t' tk'))
local macro_rules | `(tactic| walk_at "subscriptTail Name Slice ref ref") => `(tactic| (k_here; (with_reducible show wpAny _ _ (subscriptTail _ (PySem.Expr.Slice _ _ none _) (Value.ref _) (Value.ref _)) _ _ _); k_dflt (refine' upto_K ?F ?N ?hm ?h0 ?h1 ?hz ?hs ?ht ?_; (case F => k_asm); (case N => k_asm); (case hm => k_mem); (case h0 => first | exact nn0 | omega); (case h1 => first | exact leU (by assumption) | omega); (case hz => first | exact sz1000 (by assumption) (by assumption) (by assumption) | (refine sz1000 ?_ (by assumption) (by assumption); assumption) | omega); (case hs => with_unfolding_all rfl); (case ht => kmk_pure)); intro D' h' F' N' l1; (try k_lt l1); (try k_sweep)))
theorem pair_K {t : Addr} {a b v : Value} {n : Nat} {k : Int} {u : Tok} {j : Nat} {value slice : Expr} (N : News h₀ L s.heap news) (hm : (t, tupO #[a, b] n) ∈ news) (h1 : -(2 ^ 63) ≤ k) (h2 : k < 2 ^ 63) (hj : seqIndex? k 2 = some j) (hx : [a, b][j]? = some v) (h : Q v s)
    (hs : subscripted slice false (.ref t) (.int k u) = operate [.ref t, .int k u] (getItem (.ref t) (.int k u))) :
    wpAny (model PySem.Challenge.pw_nt0254_01 w) A (subscriptTail value slice (.ref t) (.int k u)) Q E s := item_tupleT (l := [a, b]) (News.isTup N hm) h1 h2 hj hx h hs
local macro_rules | `(tactic| walk_at "subscriptTail Name Constant ref int") => `(tactic| (k_here; (with_reducible show wpAny _ _ (subscriptTail _ _ (Value.ref _) (Value.int _ _)) _ _ _); k_dflt (refine' pair_K ?N ?hm ?h1 ?h2 ?hj ?hx ?_ ?hs; (case N => k_asm); (case hm => k_mem); (case h1 => decide); (case h2 => decide); (case hj => exact rfl); (case hx => exact rfl); (case hs => with_unfolding_all rfl))))
theorem own_K {sc : Scope} {cl : List (Str × Addr)} {C : Addr} {env : Env} {oC : Obj} {m₂ : Str → Option Value} {x : Str} {t : Addr} {a b v : Value} {n : Nat} {k : Int} {j : Nat} {p1 p2 p3 : Pos} (N : News h₀ L s.heap news) (hm : (C, oC) ∈ news) (hC : LCg.NsObj oC m₂) (hx : m₂ x = some (.ref t)) (hmt : (t, tupO #[a, b] n) ∈ news)
    (h1 : -(2 ^ 63) ≤ k) (h2 : k < 2 ^ 63) (hj : seqIndex? k 2 = some j) (hv : [a, b][j]? = some v)
    (h : ∀ tk, Q v { s with toks := tk })
    (hk : (compEnvC sc cl C env).scope.kind = .function) (hl : (compEnvC sc cl C env).kindOf x = some .local) (hd : (x == ("__debug__" : Str)) = false)
    (hs : ∀ i u, subscripted (.Constant (.int k) 0 p2) false (.ref t) (.int i u) = operate [.ref t, .int i u] (getItem (.ref t) (.int i u))) :
    wpAny (model PySem.Challenge.pw_nt0254_01 w) A (eval (.Subscript (.Name x p1) (.Constant (.int k) 0 p2) p3) (compEnvC sc cl C env)) Q E s := by
  refine Subscript_ (LCgL.ld_own N hm hC hx ?_ hk hl hd)
  refine wpAny_Constant_int ?_
  exact pair_K N hmt h1 h2 hj hv (h _) (hs _ _)
local macro_rules | `(tactic| walk_at "eval Subscript") => `(tactic| (k_here; (with_reducible show wpAny _ _ (eval (PySem.Expr.Subscript (PySem.Expr.Name _ _) (PySem.Expr.Constant _ _ _) _) (compEnvC _ _ _ _)) _ _ _); k_dflt (refine' own_K ?N ?hm ?hC ?hx ?hmt ?h1 ?h2 ?hj ?hv ?_ ?hk ?hl ?hd ?hs; (case N => k_asm); (case hm => k_mem); (case hC => assumption); (case hx => assumption); (case hmt => k_mem); (case h1 => decide); (case h2 => decide); (case hj => exact rfl); (case hv => exact rfl); (case hk => exact rfl); (case hl => exact rfl); (case hd => decide); (case hs => intro _ _; with_unfolding_all rfl)); intro t' tk'))
theorem sumL_K {l : Addr} {n : Nat} {us : List Value} {ks : List Int} (hh : A.handled = none) (F : Fr h₀ L s.heap m) (N : News h₀ L s.heap news) (hm : (l, listOf us.toArray n) ∈ news) (hi : IntsAre us ks)
    (h : ∀ h' tk t', Fr h₀ L h' m → News h₀ L h' news → Q (.int ks.sum t') { s with heap := h', toks := tk }) :
    wpAny (model PySem.Challenge.pw_nt0254_01 w) A (call (.builtin "sum") [.ref l]) Q E s := sumK hh F N (News.isList N hm) hi h
local macro_rules | `(tactic| walk_at "call builtin:sum") => `(tactic| (k_here; (with_reducible show wpAny _ _ (call (Value.builtin "sum") [Value.ref _]) _ _ _); k_dflt (refine' sumL_K ?hh ?F ?N ?hm ?hi ?_; (case hh => exact rfl); (case F => k_asm); (case N => k_asm); (case hm => k_mem); (case hi => assumption)); intro h' tk' t' F' N'; (try k_sweep)))
theorem szT {us : List Value} {i : Nat} (h : i < ((us.length : Int) - 0).toNat) : i ≤ (List.toArray (us.take (0 + (i : Int)).toNat)).size := by
  rw [List.size_toArray, List.length_take]; omega
theorem szL {us : List Value} {i : Nat} (h : us.length ≤ 1000) : (List.toArray (us.take (0 + (i : Int)).toNat)).size ≤ sizeLine := by
  rw [PySem.sizeLine_eq, List.size_toArray, List.length_take]; omega
theorem ltU {n i : Nat} (h : i < ((n : Int) - 0).toNat) : i < n := by omega
theorem atT {us : List Value} {i j : Nat} {v : Value} (h : (List.toArray (us.take (0 + (i : Int)).toNat))[j]? = some v) : j < i ∧ j < us.length ∧ us[j]? = some v := by
  have h1 : (us.take (0 + (i : Int)).toNat)[j]? = some v := by simpa using h
  have h2 := (List.getElem?_eq_some_iff.mp h1).1
  rw [List.length_take] at h2
  rw [List.getElem?_take, if_pos (by omega)] at h1
  exact ⟨by omega, by omega, h1⟩
theorem sumK1_ints {ys : List Value} {ks : List (Int × Int)} {i n : Nat} {t : Tok} (h : IntsAre ys ((zsL 0 ks).take i)) (hi : i < ks.length) (hn : i ≤ n) : IntsAre (ys ++ [.int (((ks.take i).take n).map fun k => 1 + k.2).sum t]) ((zsL 0 ks).take (i + 1)) := by
  rw [List.take_add_one, zsL_get hi, List.take_of_length_le (l := ks.take i) (by rw [List.length_take]; omega), Int.zero_add]
  exact IntsAre.append h (.cons _ t .nil)
theorem IntsAre.snoc {ys : List Value} {ns : List Int} {n : Int} {t : Tok} (h : IntsAre ys ns) : IntsAre (ys ++ [.int n t]) (ns ++ [n]) := IntsAre.append h (.cons _ t .nil)
local macro_rules | `(tactic| walk_at "call type:range") => `(tactic| (k_here; k_dflt (refine' range1_rows ?F ?N ?_; (case F => k_asm); (case N => k_asm)); intro h' tk' t' u' v' R' F' N' k'))
local macro_rules | `(tactic| walk_at "eval ListComp") => `(tactic| (k_here; refine Halt.mk ?_))
local macro_rules | `(tactic| walk_at "CompSrc") => `(tactic| (k_here; refine Halt.mk ?_))
local macro_rules | `(tactic| walk_at "CompEnd") => `(tactic| (k_here; refine Halt.mk ?_))
local macro_rules | `(tactic| k_ne) => `(tactic| (refine neN ?_; (try dsimp only); first | (with_reducible assumption) | (refine Ne.symm ?_; with_reducible assumption)))
local macro_rules | `(tactic| walk_at "call ref") => `(tactic| (k_here; (with_reducible show wpAny _ _ (call (Value.ref 259) [Value.ref _, Value.ref _]) _ _ _); k_dflt (refine' word_K ?F ?N ?X ?T ?o ?U ?hi ?hs ?hv ?hz ?hp ?hl ?hz1 ?hz2 ?hc ?hcb ?hne ?hne2 ?_; (case F => k_asm); (case N => k_asm); (case X => k_asm); (case T => k_asm); (case o => walk_at "nt ok"); (case U => k_updF); (case hi => k_mem); (case hs => k_mem); (case hv => assumption); (case hz => assumption); (case hp => assumption); (case hl => assumption); (case hz1 => assumption); (case hz2 => assumption); (case hc => omega); (case hcb => omega); (case hne => (refine ltN ?_; omega)); (case hne2 => assumption)); k_whole; intro r' t1' t2' h' tk' hw' F' N'; (try dsimp only at N'); (try k_sweep); (try dsimp only)))
theorem off6 {I a b c d e f : Addr} {oa ob oc od oe of : Obj} {bl : List (Addr × Obj)} (off : ∀ p ∈ (a, oa) :: (b, ob) :: (c, oc) :: (d, od) :: (e, oe) :: (f, of) :: bl, p.1 ≠ I) :
    @Ne Nat a I ∧ @Ne Nat b I ∧ @Ne Nat c I ∧ @Ne Nat d I ∧ @Ne Nat e I ∧ @Ne Nat f I ∧ ∀ p ∈ bl, p.1 ≠ I :=
  ⟨off (a, oa) (.head _), off (b, ob) (.tail _ (.head _)), off (c, oc) (.tail _ (.tail _ (.head _))), off (d, od) (.tail _ (.tail _ (.tail _ (.head _)))), off (e, oe) (.tail _ (.tail _ (.tail _ (.tail _ (.head _))))), off (f, of) (.tail _ (.tail _ (.tail _ (.tail _ (.tail _ (.head _)))))),
    fun p hp => off p (.tail _ (.tail _ (.tail _ (.tail _ (.tail _ (.tail _ hp))))))⟩

theorem blocks_K {d di : Addr} {c : Int} {tc : Tok} {nd ni : Nat} {vs : List Value} {ns : List Int} {g : Obj → List (Addr × Obj)}
    (F : Fr h₀ L s.heap m) (N : News h₀ L s.heap news) (X : (hd.heap_39 w.params).In h₀) (T : Top hd.view_39 (looseW hd.view_39 [Str.ofString "EMPTY_LIST"]) mean mg mb h₀) (o : Ok A 3)
    (U : UpdF d (deckO di c tc nd) news g) (hi : (di, listOf vs.toArray ni) ∈ news) (hv : IntsAre vs ns) (hp : ∀ x ∈ ns, 0 ≤ x) (hl : ns.length ≤ 63) (hc : 0 ≤ c) (hc' : c ≤ 90000) (hne : @LT.lt Nat _ di d)
    (h : ∀ R B S bl bvs nB svs nS nR bs c' tc' h' tk', Whole bs → Blks bl B bvs nB bs → IntsAre svs (zsOf 0 bs) → c ≤ c' → c' ≤ c + 1000 → Fr h₀ L h' m →
      News h₀ L h' ((R, tupO #[.ref B, .ref S] nR) :: (S, listOf svs.toArray nS) :: (g (deckO di c' tc' nd) ++ bl)) → (∀ p ∈ bl, ∀ q ∈ news, @Ne Nat q.1 p.1) → (∀ q ∈ news, @Ne Nat q.1 R) → (∀ q ∈ news, @Ne Nat q.1 S) → Q (.ref R) { s with heap := h', toks := tk' }) :
    wpAny (model PySem.Challenge.pw_nt0254_01 w) A (call (.ref 264) [.ref d]) Q E s := by
  obtain ⟨hd0, dp0, fr0, gd0, un0⟩ := A
  obtain rfl : hd0 = none := o.handled
  refine' enterC (binds := [(Str.ofString "deck", .ref d)]) [(d, deckO di c tc nd), (di, listOf vs.toArray ni)] ?X ?T ?st ?hsub ?hb ?ho ?hcd ?hroom ?hbind ?hkind ?hnd ?hco ?hgen ?hk ?_
  (case X => assumption)
  (case T => assumption)
  (case st => exact Fr.keep (by assumption))
  (case ho => k_is)
  (case hcd => k_is)
  (case hroom => exact Ok.room (by assumption))
  (case hbind => exact BindsTo.of_eq rfl)
  (case hkind => exact rfl)
  (case hnd => decide +kernel)
  (case hco => exact rfl)
  (case hgen => exact rfl)
  (case hk => exact rfl)
  (case hsub => exact List.forall_mem_cons.mpr ⟨(N _ (updF_mem U)).1, List.forall_mem_cons.mpr ⟨(N _ hi).1, List.forall_mem_nil _⟩⟩)
  (case hb => exact List.forall_mem_cons.mpr ⟨(N _ (updF_mem U)).2.2, List.forall_mem_cons.mpr ⟨(N _ hi).2.2, List.forall_mem_nil _⟩⟩)
  intro g9 L1 h₁ tk9 cells F' N' Y' KX' T' lt xg
  have ltd : @LT.lt Nat _ d L1 := lt d _ (N _ (updF_mem U)).1
  have lti : @LT.lt Nat _ di L1 := lt di _ (N _ hi).1
  k_cells Y'
  (try simp only [List.cons_append, List.nil_append] at N')
  replace F' : Fr g9 L1 h₁ (fun _ => none) := F'
  rename_i od3 od2 od1 d3 d2 d1
  replace d3 : od3.data = .cell none := d3
  replace d2 : od2.data = .cell none := d2
  replace d1 : od1.data = .cell (some (.ref d)) := d1
  (try dsimp only)
  k_steps
  all_goals (try dsimp only)
  rename_i So h41 lS h31 od2' d2' r t1 tc1 h21 tk1 hr1 hr2 h11 tk2 t2 u2 v2 a2 I oI h01 It hP Fs Ns lI
  refine for_sm (L := L1) [Str.ofString "turn", Str.ofString "kind"] (BlD d di So (L1 + 1 + 1 + 1) (L1 + 1 + 1) (L1 + 1) od3 od2' od1 (listOf vs.toArray ni) c nd) It hP rfl Fs Ns lI ?_ (fun _ _ _ _ _ _ => trivial) (letGo_pure fun _ => rfl) (fun _ _ x => x) ?_ ?_
  · exact ⟨[], 0, [], [], _, _, rfl, .nil, rfl, List.forall_mem_nil _, by simp, List.forall_mem_nil _⟩
  · rintro i v u nws h7 tk7 oI7 hi7 ⟨t7, rfl⟩ hP7 ⟨vs7, n7, ks, bl, c7, tc7, rfl, hR, hkl, hG, hc7, hlt⟩ off F7 N7
    clear Fs Ns lI hP
    obtain ⟨q1, q2, q3, q4, q5, q6, q7⟩ := off6 off
    have hvl := hR.len
    have f1 : ∀ p ∈ bl, p.1 ≠ So := fun p hp => Nat.ne_of_gt (hlt p hp)
    have f2 : ∀ p ∈ bl, p.1 ≠ d := fun p hp => Nat.ne_of_gt (Nat.lt_trans (lS.2.2.2.1) (hlt p hp))
    (try dsimp only)
    k_steps
    all_goals (try dsimp only)
    rename_i rk tkk tdk _ _ hk1 hk2 _ _ ra tra tda _ _ ha1 ha2 rb trb tdb _ _ hb1 hb2 rc trc tdc _ _ hcc1 hcc2 l' _ _ tt T _ lz _ Fz Nz
    refine TPs.intro ((So, listOf (List.toArray (vs7 ++ [.ref T])) (n7 + 1)) :: (L1 + 1 + 1 + 1, od3) :: (L1 + 1 + 1, od2') :: (L1 + 1, od1) :: (d, deckO di _ _ nd) :: (di, _) :: ((T, tupO #[.int rk tkk, .int _ tt] _) :: bl)) Fz Nz (by walk_at "nt sub") ?_ (by walk_at "nt same")
      ⟨_, _, ks ++ [(rk, _)], _, _, _, rfl, Rows.snoc hR, by simp [hkl], ?_, by omega, ?_⟩
    · exact List.forall_mem_cons.mpr ⟨q1, List.forall_mem_cons.mpr ⟨q2, List.forall_mem_cons.mpr ⟨q3, List.forall_mem_cons.mpr ⟨q4, List.forall_mem_cons.mpr ⟨q5, List.forall_mem_cons.mpr ⟨q6, List.forall_mem_cons.mpr ⟨Nat.ne_of_gt lz.2.1, q7⟩⟩⟩⟩⟩⟩⟩
    · intro k hk
      rcases List.mem_append.mp hk with hk | hk
      · exact hG k hk
      · rw [List.mem_singleton.mp hk]; exact goodK_menu hk1 hk2 ha1 ha2 hb1 hb2 hcc1 hcc2
    · exact List.forall_mem_cons.mpr ⟨lz.2.2.1, hlt⟩
  · rintro u nws h7 tk7 ⟨vs7, n7, ks, bl, c7, tc7, rfl, hR, hkl, hG, hc7, hlt⟩ off F7 N7
    clear Fs Ns lI hP
    have hvl := hR.len
    have f1 : ∀ p ∈ bl, p.1 ≠ So := fun p hp => Nat.ne_of_gt (hlt p hp)
    have f2 : ∀ p ∈ bl, p.1 ≠ d := fun p hp => Nat.ne_of_gt (Nat.lt_trans (lS.2.2.2.1) (hlt p hp))
    (try dsimp only)
    k_steps
    all_goals (try dsimp only)
    unfold Halt
    rename Fr _ _ _ _ => Fs
    rename News _ _ _ _ => Ns
    refine LCg.ListComp_U (F₀ := Fs) (by with_unfolding_all rfl) (by decide) (by rfl) (by decide) (by rfl) ?_
    k_steps
    all_goals (try dsimp only)
    unfold Halt
    rename Fr _ _ _ _ => Fs
    rename News _ _ _ _ => Ns
    rename IsRange _ _ _ _ _ _ _ _ => hr9
    refine LCg.CompSrc.range rfl Fs Ns hr9 (small1 (by omega) (by omega) (by omega) (by omega)) (rangeSize_nat _ _) (by rw [PySem.sizeLine_eq]; omega) ?_
    intro g8
    refine comp_inv (fun i ys nws => nws = _ ∧ IntsAre ys ((zsL 0 ks).take i)) ⟨rfl, .nil⟩ ?_ ?_
    · rintro ys5 nws5 ⟨rfl, hy5⟩
      have hy5' : IntsAre ys5 (zsL 0 ks) := by
        rw [List.take_of_length_le (by rw [zsL_len]; omega)] at hy5; exact hy5
      clear hy5
      have hzl1 : 0 < (zsL 0 ks).length := by rw [zsL_len]; omega
      have hzl2 : (zsL 0 ks).length ≤ 100 := by rw [zsL_len]; omega
      unfold LCg.FinE
      intro D5 h5 tk5 F5 N5 o5
      clear Fs Ns hr9
      (try simp only [LCg.Off1, and_true] at o5)
      obtain ⟨o51, o52, o53, o54, o55, o56, o57⟩ := o5
      have f3 : ∀ p ∈ bl, p.1 ≠ L1 + 1 + 1 + 1 := fun p hp => Nat.ne_of_gt (Nat.lt_trans lS.1 (hlt p hp))
      have e1 : @Ne Nat So (L1 + 1 + 1 + 1) := by omega
      have e2 : @Ne Nat (L1 + 1 + 1) (L1 + 1 + 1 + 1) := by omega
      have e3 : @Ne Nat (L1 + 1) (L1 + 1 + 1 + 1) := by omega
      have e4 : @Ne Nat d (L1 + 1 + 1 + 1) := by omega
      have e5 : @Ne Nat di (L1 + 1 + 1 + 1) := by omega
      (try dsimp only)
      k_steps
      all_goals (try dsimp only)
      unfold Halt
      rename Fr _ _ _ _ => F5
      rename News _ _ _ _ => N5
      rename_i _ o4 d4
      refine LCg.ListComp_U (F₀ := F5) (by with_unfolding_all rfl) (by decide) (by rfl) (by decide) (by rfl) ?_
      k_steps
      all_goals (try dsimp only)
      unfold Halt
      refine LCg.CompSrc.ledger rfl F5 N5 (.tail _ (.head _)) (by rw [PySem.sizeLine_eq, List.size_toArray]; omega) ?_
      intro g4
      refine comp_inv (BkD d di So D5 (L1 + 1 + 1 + 1) (L1 + 1 + 1) (L1 + 1) (LCg.lst ys5) (listOf vs7.toArray n7) o4 od2' od1 (listOf vs.toArray ni) c7 nd vs7 ks) ⟨bl, [], c7, tc7, rfl, hR, .nil, by simp, (fun _ h => nomatch h), by omega, by omega, fun p hp => ⟨f2 p hp, Nat.ne_of_gt (Nat.lt_trans lS.2.2.2.2 (hlt p hp))⟩⟩ ?_ ?_
      · rintro ys3 nws3 ⟨tl, bs, c3, tc3, rfl, hR3, hB3, hm3, hW3, hc31, hc32, hf3⟩
        unfold LCg.FinE
        intro D3 h3 tk3 F3 N3 o3
        clear F5 N5
        (try simp only [LCg.Off1, and_true] at o3)
        (try dsimp only)
        k_steps
        all_goals (try dsimp only)
        rename Fr _ _ _ _ => Fz
        rename News _ _ _ _ => Nz
        rename_i R3 _ l3
        obtain ⟨o31, o32, o33, o34, o35, o36, o37, o38⟩ := o3
        have hm3' : bs.map (fun b => (b.1, (b.2.length : Int))) = ks := by rw [hm3, List.take_of_length_le (by rw [List.size_toArray, hvl]; exact Nat.le_refl _)]
        have ez : zsL 0 ks = zsOf 0 bs := by rw [← hm3']; exact zsL_blocks 0 bs
        rw [List.size_toArray] at hc32
        have k1 : 2 ≤ ks.length := by clear o31 o32 o33 o34 o35 o36 o37 o51 o52 o53 o54 o55 o56 e1 e2 e3 e4 e5; omega
        have k2 : ks.length ≤ 6 := by clear o31 o32 o33 o34 o35 o36 o37 o51 o52 o53 o54 o55 o56 e1 e2 e3 e4 e5; omega
        have k3 : c ≤ c3 ∧ c3 ≤ c + 1000 := by clear o31 o32 o33 o34 o35 o36 o37 o51 o52 o53 o54 o55 o56 e1 e2 e3 e4 e5; omega
        refine Lv.intro Fz fun x => ?_
        obtain ⟨F2, N2⟩ := deck_back (own := [(di, listOf vs.toArray ni)]) F N U (List.forall_mem_cons.mpr ⟨hi, List.forall_mem_nil _⟩) x (Nz.get (by k_mem)) (List.forall_mem_cons.mpr ⟨Nz.get (by k_mem), List.forall_mem_nil _⟩)
        obtain ⟨Nw, fw⟩ := fresh_news (nw := (R3, tupO #[.ref D3, .ref D5] 0) :: (D5, LCg.lst ys5) :: (D3, LCg.lst ys3) :: tl) F N xg Nz (by walk_at "nt sub")
          (List.forall_mem_cons.mpr ⟨notin2 (Nat.ne_of_gt l3.2.2.2.2.2.2.1) (Nat.ne_of_gt l3.2.2.2.2.2.2.2.1), List.forall_mem_cons.mpr ⟨notin2 (Ne.symm o55) (Ne.symm o56), List.forall_mem_cons.mpr ⟨notin2 (Ne.symm o36) (Ne.symm o37), fun p hp => notin2 (hf3 p hp).1 (hf3 p hp).2⟩⟩⟩)
        refine h R3 D3 D5 ((D3, LCg.lst ys3) :: tl) ys3 ys3.length ys5 ys5.length 0 bs c3 tc3 _ _ (whole_of hm3' k1 k2 hG hW3) hB3.blks (ez ▸ hy5') k3.1 k3.2 F2 ?_ (fun p hp => fw p (.tail _ (.tail _ hp))) (fw (R3, _) (.head _)) (fw (D5, _) (.tail _ (.head _)))
        intro p hp
        rcases List.mem_cons.mp hp with rfl | hp
        · exact Nw _ (.head _)
        rcases List.mem_cons.mp hp with rfl | hp
        · exact Nw _ (.tail _ (.head _))
        rcases List.mem_append.mp hp with hp | hp
        · exact N2 p hp
        · exact Nw p (.tail _ (.tail _ hp))
      · rintro i3 v3 ys3 nws3 I3 oI3 C3 oC3 D3 m3 h3 tk3 E3 hi3 hv3 ⟨tl, bs, c3, tc3, rfl, hR3, hB3, hm3, hW3, hc31, hc32, hf3⟩ hC3 hx3 F3 N3 off3 ne3
        clear F5 N5
        have off3' := off3
        (try simp only [LCg.Off3, and_true] at off3)
        obtain ⟨p1, p2, p3, p4, p5, ⟨p61, p62, p63⟩, p7, p8⟩ := off3
        have hv3' : vs7[i3]? = some v3 := by simpa using hv3
        have hi3' : i3 < ks.length := by rw [← hvl]; exact (List.getElem?_eq_some_iff.mp hv3').1
        have hk3 : ks[i3]? = some ks[i3] := by simp [hi3']
        have gk := hG _ (List.getElem_mem hi3')
        generalize ks[i3] = kk at hk3 gk
        obtain ⟨t3, ta3, tb3, n3, rfl, mt3⟩ := hR3.item i3 v3 _ hv3' hk3
        obtain ⟨gk0, gk1, gk2, gk3, gk4⟩ := gk
        have f2' : ∀ p ∈ tl, p.1 ≠ d := fun p hp => (hf3 p hp).1
        have z1 : @Ne Nat So d := Nat.ne_of_gt lS.2.2.2.1
        have z2 : @Ne Nat (L1 + 1 + 1) d := by clear o51 o52 o53 o54 o55 o56 e1 e2 e3 e4 e5; omega
        have z3 : @Ne Nat (L1 + 1) d := by clear o51 o52 o53 o54 o55 o56 e1 e2 e3 e4 e5; omega
        have z4 : @Ne Nat di d := Nat.ne_of_lt hne
        k_steps
        all_goals (try dsimp only)
        unfold Halt
        refine LCg.ListComp_U (F₀ := F3) (by with_unfolding_all rfl) (by decide) (by rfl) (by decide) (by rfl) ?_
        k_steps
        all_goals (try dsimp only)
        unfold Halt
        rename Fr _ _ _ _ => F2
        rename News _ _ _ _ => N2
        rename IsRange _ _ _ _ _ _ _ _ => hr2'
        refine LCg.CompSrc.range rfl F2 N2 hr2' (small1 (by clear o51 o52 o53 o54 o55 o56 e1 e2 e3 e4 e5; omega) (by clear o51 o52 o53 o54 o55 o56 e1 e2 e3 e4 e5; omega) (by clear o51 o52 o53 o54 o55 o56 e1 e2 e3 e4 e5; omega) (by clear o51 o52 o53 o54 o55 o56 e1 e2 e3 e4 e5; omega)) (rangeSize_nat _ _) (by rw [PySem.sizeLine_eq]; clear o51 o52 o53 o54 o55 o56 e1 e2 e3 e4 e5; omega) ?_
        intro g2
        refine comp_inv (WdD (fun o => (I3, oI3) :: (C3, oC3) :: (D3, LCg.lst ys3) :: (D5, LCg.lst ys5) :: (So, listOf vs7.toArray n7) :: (L1 + 1 + 1 + 1, o4) :: (L1 + 1 + 1, od2') :: (L1 + 1, od1) :: (d, o) :: (di, listOf vs.toArray ni) :: tl) di c3 nd (zsL 0 ks)) ⟨[], c3, tc3, rfl, .nil, rfl, (fun _ h => nomatch h), by simp⟩ ?_ ?_
        · rintro ys1 nws1 ⟨xs, c1, tc1', rfl, hI1, hl1, hW1, hc1⟩
          unfold LCg.FinE
          intro D1 h1 tk1 F1 N1 o1
          clear F2 N2
          dsimp only at N1 o1
          (try simp only [LCg.Off1, and_true] at o1)
          (try dsimp only)
          k_steps
          all_goals (try dsimp only)
          unfold Halt
          rename Fr _ _ _ _ => Fz
          rename News _ _ _ _ => Nz
          rename_i T3 _ l3
          have cn := cnt1 hc31 hc32 hc1 gk4
          refine LCg.CompEnd.intro Fz Nz ((D5, LCg.lst ys5) :: (So, listOf vs7.toArray n7) :: (L1 + 1 + 1 + 1, o4) :: (L1 + 1 + 1, od2') :: (L1 + 1, od1) :: (d, deckO di c1 tc1' nd) :: (di, listOf vs.toArray ni) :: (T3, tupO #[.int kk.1 ta3, .ref D1] 0) :: (D1, LCg.lst ys1) :: tl) (by walk_at "nt sub")
            ⟨p1, p2, p3, p4, p5, ⟨p61, p62, p63⟩, p7, ⟨Nat.ne_of_gt l3.2.1, Nat.ne_of_gt l3.2.2.1, Nat.ne_of_gt l3.2.2.2.1⟩, ⟨Ne.symm o1.1, Ne.symm o1.2.1, Ne.symm o1.2.2.1⟩, p8⟩ (.inr ⟨_, .tail _ (.head _), rfl, _, rfl⟩)
            ⟨_, bs ++ [(kk.1, xs)], c1, tc1', rfl, hR3.mono (fun p hp => .tail _ (.tail _ hp)), hB3.snoc hI1, map_take_snoc hm3 hk3 (cnt2 hl1 gk0), ?_, cn.1, cn.2, ?_⟩
          · intro b hb
            rcases List.mem_append.mp hb with hb | hb
            · exact hW3 b hb
            · rw [List.mem_singleton.mp hb]; exact hW1
          · exact List.forall_mem_cons.mpr ⟨⟨Nat.ne_of_gt l3.2.2.2.2.2.2.2.2.2.1, Nat.ne_of_gt l3.2.2.2.2.2.2.2.2.2.2.1⟩, List.forall_mem_cons.mpr ⟨⟨Ne.symm o1.2.2.2.2.2.2.2.2.1, Ne.symm o1.2.2.2.2.2.2.2.2.2.1⟩, hf3⟩⟩
        · rintro i1 v1 ys1 nws1 I1 oI1 C1 oC1 D1 m1 h1 tk1 E1 hi1 ⟨t1', rfl⟩ ⟨xs, c1, tc1', rfl, hI1, hl1, hW1, hc1⟩ hC1 hx1 F1 N1 off1 ne1
          clear F2 N2 hr2'
          have off1' := off1
          dsimp only at N1 off1
          (try simp only [LCg.Off3, and_true] at off1)
          obtain ⟨y1, y2, y3, y4, y5, y6, y7, y8, ⟨y91, y92, y93⟩, y10⟩ := off1
          have hc10 : 0 ≤ c1 := by clear o51 o52 o53 o54 o55 o56 e1 e2 e3 e4 e5 p1 p2 p3 p4 p5 p61 p62 p63 p7 y1 y2 y3 y4 y5 y6 y7 y8 y91 y92 y93 z1 z2 z3 z4 ne1 ne3 y10; omega
          have hc11 : c1 ≤ 99990 := by clear o51 o52 o53 o54 o55 o56 e1 e2 e3 e4 e5 p1 p2 p3 p4 p5 p61 p62 p63 p7 y1 y2 y3 y4 y5 y6 y7 y8 y91 y92 y93 z1 z2 z3 z4 ne1 ne3 y10; omega
          clear y1 y2 y3 y4 y5 y6 y7 y8 y10
          (try dsimp only)
          k_steps
          all_goals (try dsimp only)
          unfold Halt
          rename Fr _ _ _ _ => Fz
          rename News _ _ _ _ => Nz
          rename_i rw tw _ _ _ hww
          refine LCg.CompEnd.intro Fz Nz _ (fun p hp => hp) off1' trivial ⟨xs ++ [rw], c1 + 2, _, rfl, IntsAre.snoc hI1, by simp [hl1], ?_, cnt3 hc1⟩
          intro x hx
          rcases List.mem_append.mp hx with hx | hx
          · exact hW1 x hx
          · rw [List.mem_singleton.mp hx]; exact hww
    · rintro i8 v8 ys8 nws8 I8 oI8 C8 oC8 D8 m8 h8 tk8 E8 hi8 ⟨t8, rfl⟩ ⟨rfl, hy8⟩ hC8 hm8 F8 N8 off8 ne8
      clear Fs Ns hr9
      have off8' := off8
      (try simp only [LCg.Off3, and_true] at off8)
      k_steps
      all_goals (try dsimp only)
      unfold Halt
      refine LCg.ListComp_U (F₀ := F8) (by with_unfolding_all rfl) (by decide) (by rfl) (by decide) (by rfl) ?_
      k_steps
      all_goals (try dsimp only)
      unfold Halt
      rename Fr _ _ _ _ => Fi
      rename News _ _ _ _ => Ni
      rename_i SL _ _ _ lz
      refine LCg.CompSrc.ledger rfl Fi Ni (.head _) (szL (by omega)) ?_
      intro g6
      refine comp_inv (fun j ys nws => nws = _ ∧ IntsAre ys (((ks.take i8).take j).map fun k => 1 + k.2)) ⟨rfl, by simpa using IntsAre.nil⟩ ?_ ?_
      · rintro ys6 nws6 ⟨rfl, hy6⟩
        unfold LCg.FinE
        intro D6 h6 tk6 F6 N6 o6
        clear Fi Ni
        (try simp only [LCg.Off1, and_true] at o6)
        (try dsimp only)
        k_steps
        all_goals (try dsimp only)
        unfold Halt
        rename Fr _ _ _ _ => Fz
        rename News _ _ _ _ => Nz
        refine LCg.CompEnd.intro Fz Nz ((So, listOf vs7.toArray n7) :: (L1 + 1 + 1 + 1, od3) :: (L1 + 1 + 1, od2') :: (L1 + 1, od1) :: (d, deckO di c7 tc7 nd) :: (di, listOf vs.toArray ni) :: bl) (by walk_at "nt sub") off8' trivial ⟨rfl, sumK1_ints hy8 (hvl ▸ ltU hi8) (szT hi8)⟩
      · rintro i6 v6 ys6 nws6 I6 oI6 C6 oC6 D6 m6 h6 tk6 E6 hi6 hv6 ⟨rfl, hy6⟩ hC6 hm6 F6 N6 off6 ne6
        clear Fi Ni
        have off6' := off6
        (try simp only [LCg.Off3, and_true] at off6)
        obtain ⟨b6, b6', hv6'⟩ := atT hv6
        rw [hvl] at b6'
        have hk6 : ks[i6]? = some ks[i6] := by simp [b6']
        obtain ⟨t6, tk66, tl6, n6, rfl, mt6⟩ := hR.item i6 v6 _ hv6' hk6
        k_steps
        all_goals (try dsimp only)
        unfold Halt
        exact LCg.CompEnd.intro F6 N6 _ (fun p hp => hp) off6' (.inr ⟨_, .head _, rfl, _, rfl⟩) ⟨rfl, ints_take hy6 b6 hk6⟩
end P12

local macro_rules | `(tactic| walk_at "call ref") => `(tactic| (k_here; (with_reducible show wpAny _ _ (call (Value.ref 264) [Value.ref _]) _ _ _); k_dflt (refine' blocks_K ?F ?N ?X ?T ?o ?U ?hi ?hv ?hp ?hl ?hc ?hcb ?hne ?_; (case F => k_asm); (case N => k_asm); (case X => k_asm); (case T => k_asm); (case o => walk_at "nt ok"); (case U => k_updF); (case hi => k_mem); (case hv => assumption); (case hp => assumption); (case hl => assumption); (case hc => omega); (case hcb => omega); (case hne => (refine ltN ?_; omega))); k_whole; intro R' B' S' bl' bvs' nB' svs' nS' nR' bs' c' tc' h' tk' hW' hB' hS' hc1' hc2' F' N' fb' fR' fS'; (try dsimp only at N'); (try simp only [List.cons_append, List.nil_append] at N'); (try k_sweep); (try dsimp only)))

section P13
/-! the spoiling, as the walk shows it -/
theorem at_facts {bs : List Blk} {i : Nat} {b : Blk} (hb : bs[i]? = some b) : ∃ pre post, bs = pre ++ b :: post ∧ pre.length = i ∧ (zsOf 0 bs).getD i 0 = ((cellsOf pre).length : Int) ∧ cellsOf bs = cellsOf pre ++ hdrW b :: (b.2 ++ cellsOf post) := by
  obtain ⟨hi, e⟩ := List.getElem?_eq_some_iff.mp hb
  have hs : bs = bs.take i ++ b :: bs.drop (i + 1) := by
    rw [← e, ← List.drop_eq_getElem_cons hi, List.take_append_drop]
  have hl : (bs.take i).length = i := by rw [List.length_take]; omega
  refine ⟨bs.take i, bs.drop (i + 1), hs, hl, ?_, ?_⟩
  · have e1 : zsOf 0 bs = zsOf 0 (bs.take i) ++ zsOf (0 + (cellsOf (bs.take i)).length) (b :: bs.drop (i + 1)) := by rw [← zsOf_append, ← hs]
    rw [e1, List.getD_eq_getElem?_getD, List.getElem?_append_right (by rw [zsOf_len]; omega), zsOf_len, hl, Nat.sub_self, zsOf, Nat.zero_add]
    rfl
  · have e1 : cellsOf bs = cellsOf (bs.take i) ++ cellsOf (b :: bs.drop (i + 1)) := by rw [← cellsOf_append, ← hs]
    rw [e1]; rfl
theorem set_head {pre post : List Blk} {b : Blk} {x : Int} : (cellsOf pre ++ hdrW b :: (b.2 ++ cellsOf post)).set (((cellsOf pre).length : Nat) : Int).toNat x = cellsOf pre ++ x :: (b.2 ++ cellsOf post) := by
  rw [Int.toNat_natCast, List.set_append_right _ _ (Nat.le_refl _), Nat.sub_self]; rfl
theorem set_word {pre post : List Blk} {b : Blk} {r y : Int} (h0 : 0 ≤ r) (h1 : r < (b.2.length : Int)) : (cellsOf pre ++ hdrW b :: (b.2 ++ cellsOf post)).set ((((cellsOf pre).length : Nat) : Int) + 1 + r).toNat y = cellsOf pre ++ hdrW b :: (b.2.set r.toNat y ++ cellsOf post) := by
  rw [List.set_append_right _ _ (by omega)]
  have e : ((((cellsOf pre).length : Nat) : Int) + 1 + r).toNat - (cellsOf pre).length = r.toNat + 1 := by omega
  rw [e, List.set_cons_succ, List.set_append_left _ _ (by omega)]
section
variable {bs : List Blk} {b : Blk} {i : Nat} (h : Whole bs) (hb : bs[i]? = some b)
include h hb
theorem at_room : 0 ≤ (zsOf 0 bs).getD i 0 ∧ (zsOf 0 bs).getD i 0 + 1 + (b.2.length : Int) ≤ ((cellsOf bs).length : Int) ∧ (cellsOf bs).length ≤ 24 ∧ b.2.length ≤ 3 := by
  obtain ⟨pre, post, hs, _, e, ec⟩ := at_facts hb
  refine ⟨by omega, ?_, h.cells, (due_split h hs).2.1.1.2.2.2⟩
  rw [e, ec]; simp; omega
theorem way_header {x : Int} (hx : x % 8 ≠ 5) : Due ((cellsOf bs).set ((zsOf 0 bs).getD i 0).toNat x) ((zsOf 0 bs).getD i 0) "header" := by
  obtain ⟨pre, post, hs, _, e, ec⟩ := at_facts hb
  rw [e, ec, set_head]; exact due_header h hs hx
theorem way_kind {k : Int} (h0 : 0 ≤ k) (h1 : k < 8) : Due ((cellsOf bs).set ((zsOf 0 bs).getD i 0).toNat (((b.2.length : Int) * 16 + (8 + k)) * 8 + 5)) ((zsOf 0 bs).getD i 0) "kind" := by
  obtain ⟨pre, post, hs, _, e, ec⟩ := at_facts hb
  rw [e, ec, set_head]; exact due_kind h hs h0 h1
theorem way_length {k : Int} (hk : k = if (b.2.length : Int) = 2 then 4 else 0) : Due ((cellsOf bs).set ((zsOf 0 bs).getD i 0).toNat (((b.2.length : Int) * 16 + k) * 8 + 5)) ((zsOf 0 bs).getD i 0) "length" := by
  obtain ⟨pre, post, hs, _, e, ec⟩ := at_facts hb
  rw [e, ec, set_head]; exact due_length h hs hk
theorem way_field {r y : Int} (h0 : 0 ≤ r) (h1 : r < (b.2.length : Int)) (hy : y % 8 = 5 ∨ y % 8 = 6) : Due ((cellsOf bs).set ((zsOf 0 bs).getD i 0 + 1 + r).toNat y) ((zsOf 0 bs).getD i 0) "field" := by
  obtain ⟨pre, post, hs, _, e, ec⟩ := at_facts hb
  rw [e, ec, set_word h0 h1]; exact due_field h hs (by omega) hy
theorem way_ref {r k : Int} (h0 : 0 ≤ r) (h1 : r < (b.2.length : Int)) (k0 : 0 ≤ k) (k1 : k < 4) :
    Due ((cellsOf bs).set ((zsOf 0 bs).getD i 0 + 1 + r).toNat ([(zsOf 0 bs).getD i 0 + 1, ((cellsOf bs).length : Int), ((cellsOf bs).length : Int) + 7, -1].getD k.toNat 0 * 8 + 1)) ((zsOf 0 bs).getD i 0) "reference" := by
  obtain ⟨pre, post, hs, _, e, ec⟩ := at_facts hb
  have hk : k = 0 ∨ k = 1 ∨ k = 2 ∨ k = 3 := by omega
  have hq : [(zsOf 0 bs).getD i 0 + 1, ((cellsOf bs).length : Int), ((cellsOf bs).length : Int) + 7, -1].getD k.toNat 0 = ((cellsOf pre).length : Int) + 1 ∨ [(zsOf 0 bs).getD i 0 + 1, ((cellsOf bs).length : Int), ((cellsOf bs).length : Int) + 7, -1].getD k.toNat 0 = ((cellsOf bs).length : Int) ∨
      [(zsOf 0 bs).getD i 0 + 1, ((cellsOf bs).length : Int), ((cellsOf bs).length : Int) + 7, -1].getD k.toNat 0 = ((cellsOf bs).length : Int) + 7 ∨ [(zsOf 0 bs).getD i 0 + 1, ((cellsOf bs).length : Int), ((cellsOf bs).length : Int) + 7, -1].getD k.toNat 0 = -1 := by
    rcases hk with rfl | rfl | rfl | rfl
    · exact .inl (by rw [← e]; rfl)
    · exact .inr (.inl rfl)
    · exact .inr (.inr (.inl rfl))
    · exact .inr (.inr (.inr rfl))
  have d := due_reference h hs (r := r.toNat) (by omega) hq
  rw [← set_word h0 h1, ← ec, ← e] at d
  exact d
theorem way_end (hi : i + 1 = bs.length) {r : Int} (h0 : 0 ≤ r) (h1 : r < 3) : Due ((cellsOf bs).set ((zsOf 0 bs).getD i 0).toNat ((((b.2.length : Int) + 1 + r) * 16 + 1) * 8 + 5)) ((zsOf 0 bs).getD i 0) "end" := by
  obtain ⟨pre, post, hs, hl, e, ec⟩ := at_facts hb
  have hp : post = [] := by
    have := congrArg List.length hs
    rw [List.length_append, List.length_cons] at this
    exact List.eq_nil_of_length_eq_zero (by omega)
  rw [e, ec, set_head]; exact due_end h hs hp h0 h1
end
theorem menu_header {a k : Int} (k0 : 0 ≤ k) (k1 : k < 4) : [a * 8, 20, 0 * 8 + 6, 0 * 8 + 1].getD k.toNat 0 % 8 ≠ 5 := by
  have hk : k = 0 ∨ k = 1 ∨ k = 2 ∨ k = 3 := by omega
  rcases hk with rfl | rfl | rfl | rfl
  · show a * 8 % 8 ≠ 5; omega
  · show (20 : Int) % 8 ≠ 5; decide
  · show ((0 : Int) * 8 + 6) % 8 ≠ 5; decide
  · show ((0 : Int) * 8 + 1) % 8 ≠ 5; decide
theorem menu_field {a k : Int} (k0 : 0 ≤ k) (k1 : k < 2) : [(2 * 16 + 0) * 8 + 5, a * 8 + 6].getD k.toNat 0 % 8 = 5 ∨ [(2 * 16 + 0) * 8 + 5, a * 8 + 6].getD k.toNat 0 % 8 = 6 := by
  have hk : k = 0 ∨ k = 1 := by omega
  rcases hk with rfl | rfl
  · exact .inl (show ((2 * 16 + 0) * 8 + 5 : Int) % 8 = 5 by decide)
  · exact .inr (show (a * 8 + 6) % 8 = 6 by omega)
end P13


section P14
theorem itemB_K {B : Addr} {nB : Nat} {bl : List (Addr × Obj)} {bvs : List Value} {bs : List Blk} {k : Int} {u : Tok} {value slice : Expr} (N : News h₀ L s.heap news) (bk : Blks bl B bvs nB bs) (hW : Whole bs) (hm : (B, listOf bvs.toArray nB) ∈ news) (h0 : 0 ≤ k) (h1 : k < (bs.length : Int))
    (hs : subscripted slice false (.ref B) (.int k u) = operate [.ref B, .int k u] (getItem (.ref B) (.int k u)))
    (h : ∀ t a tk n1 n2 ws b, bs[k.toNat]? = some b → (t, tupO #[.int b.1 tk, .ref a] n1) ∈ bl → (a, listOf (List.toArray ws) n2) ∈ bl → IntsAre ws b.2 → 0 ≤ (zsOf 0 bs).getD k.toNat 0 → (zsOf 0 bs).getD k.toNat 0 + 1 + (b.2.length : Int) ≤ ((cellsOf bs).length : Int) → b.2.length ≤ 3 → Q (.ref t) s) :
    wpAny (model PySem.Challenge.pw_nt0254_01 w) A (subscriptTail value slice (.ref B) (.int k u)) Q E s := by
  have hk : k.toNat < bs.length := by omega
  have hb : bs[k.toNat]? = some bs[k.toNat] := by simp [hk]
  have hk2 : k.toNat < bvs.length := by rw [bk.len]; exact hk
  have hv : bvs[k.toNat]? = some bvs[k.toNat] := by simp [hk2]
  obtain ⟨t, a, tk, n1, n2, ws, e, m1, m2, hw⟩ := bk.item _ _ _ hv hb
  obtain ⟨r1, r2, r3, r4⟩ := at_room hW hb
  rw [e] at hv
  have h6 := hW.six
  have hl := News.isList N hm
  exact tail_any hl.typeIs slot_list_getitem.lookup (wpAny_getItem_list hl h0 (by omega) (by simpa using hv) (h t a tk n1 n2 ws _ hb m1 m2 hw r1 r2 r4)) hs
theorem allLt_mem {D : Addr} : ∀ {l : List (Addr × Obj)}, AllLt D l → ∀ p ∈ l, @LT.lt Nat _ p.1 D
  | [], _, _, h => nomatch h
  | _ :: _, x, p, h => by
    rcases List.mem_cons.mp h with rfl | h
    · exact x.1
    · exact allLt_mem x.2 p h
theorem lenW_K {l : Addr} {n : Nat} {us : List Value} {k : Nat} (N : News h₀ L s.heap news) (hm : (l, listOf us.toArray n) ∈ news) (hk : us.length = k) (hl : k ≤ 1000) (h : ∀ (t : Tok) tk', Q (.int (k : Int) t) { s with toks := tk' }) :
    wpAny (model PySem.Challenge.pw_nt0254_01 w) A (call (.builtin "len") [.ref l]) Q E s :=
  len_list (News.isList N hm) (by rw [List.size_toArray]; omega) (by rw [List.size_toArray, hk]; exact h _ _)
theorem back2 {ds : List Addr} {h h' : Heap} {own rest : List (Addr × Obj)} {a1 a2 : Addr} (F : Fr h₀ L h m) (N : News h₀ L h news) (hin : ∀ b ∈ ds, ∃ o, (b, o) ∈ news) (ho : ∀ p ∈ own, p ∈ news) (x : ExtB ds h h') (back : ∀ p ∈ own, h'.get? p.1 = some p.2)
    (hds : ∀ b ∈ ds, b = a1 ∨ b = a2 ∨ ∃ p ∈ own, p.1 = b) (hr : ∀ p ∈ rest, p ∈ news ∧ @Ne Nat p.1 a1 ∧ @Ne Nat p.1 a2) : Fr h₀ L h' m ∧ News h₀ L h' rest := by
  refine ⟨fr_ext F x (out_of N hin), fun p hp => ?_⟩
  obtain ⟨hp, n1, n2⟩ := hr p hp
  refine ⟨?_, (N p hp).2⟩
  by_cases hd : p.1 ∈ ds
  · rcases hds _ hd with e | e | ⟨q, hq, e⟩
    · exact absurd e n1
    · exact absurd e n2
    · have h1 := (N p hp).1
      have h2 := (N q (ho q hq)).1
      rw [e, h1] at h2
      have h3 := back q hq
      rw [e] at h3
      rw [h3]; exact h2.symm
  · exact x _ _ hd (N p hp).1

local macro_rules | `(tactic| walk_at "call builtin:len") => `(tactic| (k_here; (with_reducible show wpAny _ _ (call (Value.builtin "len") [Value.ref _]) _ _ _); k_dflt (refine' lenW_K ?N ?hm ?hk ?hl ?_; (case N => k_asm); (case hm => k_mem); (case hk => assumption); (case hl => omega)); intro t' tk'))
local macro_rules | `(tactic| walk_at "subscriptTail Name Name ref int") => `(tactic| (k_here; (with_reducible show wpAny _ _ (subscriptTail _ _ (Value.ref _) (Value.int _ _)) _ _ _); k_dflt (refine' ksa_sub ?k1 ?k2 ?k3 ?k4 ?k5 ?k6 ?_ ?k7; (case k1 => k_asm); (case k2 => k_mem); (case k3 => assumption); (case k4 => omega); (case k5 => omega); (case k6 => omega); (case k7 => with_unfolding_all rfl); k_whole); intro t'))
local macro_rules | `(tactic| walk_at "subscriptTail Name Name ref int") => `(tactic| (k_here; (with_reducible show wpAny _ _ (subscriptTail _ _ (Value.ref _) (Value.int _ _)) _ _ _); k_dflt (refine' itemB_K ?N ?bk ?hW ?hm ?h0 ?h1 ?hs ?_; (case bk => assumption); (case N => k_asm); (case hW => assumption); (case hm => k_mem); (case h0 => omega); (case h1 => omega); (case hs => with_unfolding_all rfl)); intro t' a' tk' n1' n2' ws' b' hb' m1' m2' hw' r1' r2' r3'; have hwl' := IntsAre.length hw'))
local macro_rules | `(tactic| walk_at "subscriptTail Subscript Constant ref int") => `(tactic| (k_here; (with_reducible show wpAny _ _ (subscriptTail _ _ (Value.ref _) (Value.int _ _)) _ _ _); k_dflt (refine' pair_K ?N ?hm ?h1 ?h2 ?hj ?hx ?_ ?hs; (case N => k_asm); (case hm => k_mem); (case h1 => decide); (case h2 => decide); (case hj => exact rfl); (case hx => exact rfl); (case hs => with_unfolding_all rfl))))
local macro_rules | `(tactic| walk_at "setItem ref int int") => `(tactic| (k_here; (with_reducible show wpAny _ _ (setItem (Value.ref _) (Value.int _ _) (Value.int _ _)) _ _ _); k_dflt (refine' ksa_set ?k1 ?k2 ?k3 ?k4 ?k5 ?k6 ?k7 ?_; (case k1 => k_asm); (case k2 => k_asm); (case k3 => k_upd); (case k4 => assumption); (case k5 => omega); (case k6 => omega); (case k7 => omega); k_whole); intro h' F' N' hi' hl' hs'; (try k_sweep)))

theorem any34 {P : Prop} {r : Int} (h : (([3, 4] : List Int).any fun x => x == r) = false) (h2 : r = 3 ∨ r = 4) : P := by
  rcases h2 with rfl | rfl <;> exact absurd h (by decide)

theorem spoilt_K {d di ca S B : Addr} {c : Int} {tc : Tok} {nd ni nc nS nB : Nat} {vs cvs svs bvs : List Value} {ns : List Int} {bs : List Blk} {bl rest : List (Addr × Obj)}
    (F : Fr h₀ L s.heap m) (N : News h₀ L s.heap news) (X : (hd.heap_39 w.params).In h₀) (T : Top hd.view_39 (looseW hd.view_39 [Str.ofString "EMPTY_LIST"]) mean mg mb h₀) (o : Ok A 2)
    (i1 : (d, deckO di c tc nd) ∈ news) (i2 : (di, listOf vs.toArray ni) ∈ news) (i3 : (ca, listOf cvs.toArray nc) ∈ news) (i4 : (S, listOf svs.toArray nS) ∈ news) (i5 : ∀ p ∈ bl, p ∈ news)
    (hv : IntsAre vs ns) (hp : ∀ x ∈ ns, 0 ≤ x) (hl : ns.length ≤ 63) (hc : 0 ≤ c) (hc' : c ≤ 90000) (hne : @LT.lt Nat _ di d)
    (hW : Whole bs) (bk : Blks bl B bvs nB bs) (hcv : IntsAre cvs (cellsOf bs)) (hsv : IntsAre svs (zsOf 0 bs))
    (n1 : @Ne Nat d ca) (n2 : @Ne Nat di ca) (n3 : @Ne Nat S d) (n4 : @Ne Nat S ca) (n5 : ∀ p ∈ bl, @Ne Nat p.1 d) (n6 : ∀ p ∈ bl, @Ne Nat p.1 ca) (hr : ∀ p ∈ rest, p ∈ news ∧ @Ne Nat p.1 d ∧ @Ne Nat p.1 ca)
    (h : ∀ R a ta x tx nR cs' cvs' nc' c' tc' h' tk', Due cs' a x → IntsAre cvs' cs' → c ≤ c' → c' ≤ c + 10 → Fr h₀ L h' m →
      News h₀ L h' ((R, tupO #[.int a ta, .str (Str.ofString x) tx] nR) :: (ca, listOf (List.toArray cvs') nc') :: (d, deckO di c' tc' nd) :: rest) → (∀ q ∈ news, @Ne Nat q.1 R) → Q (.ref R) { s with heap := h', toks := tk' }) :
    wpAny (model PySem.Challenge.pw_nt0254_01 w) A (call (.ref 278) [.ref d, .ref ca, .ref B, .ref S]) Q E s := by
  obtain ⟨hd0, dp0, fr0, gd0, un0⟩ := A
  obtain rfl : hd0 = none := o.handled
  refine' enter (binds := [(Str.ofString "deck", .ref d), (Str.ofString "cells", .ref ca), (Str.ofString "blocks", .ref B), (Str.ofString "starts", .ref S)]) ((d, deckO di c tc nd) :: (di, listOf vs.toArray ni) :: (ca, listOf cvs.toArray nc) :: (S, listOf svs.toArray nS) :: bl) ?X ?T ?st ?hsub ?hb ?ho ?hcd ?hroom ?hbind ?hloc ?hco ?hgen ?hk ?hcell ?_
  (case X => assumption)
  (case T => assumption)
  (case st => exact Fr.keep (by assumption))
  (case ho => k_is)
  (case hcd => k_is)
  (case hroom => exact Ok.room (by assumption))
  (case hbind => exact BindsTo.of_eq rfl)
  (case hloc => exact locs rfl)
  (case hco => exact rfl)
  (case hgen => exact rfl)
  (case hk => exact rfl)
  (case hcell => decide)
  (case hsub => exact List.forall_mem_cons.mpr ⟨(N _ i1).1, List.forall_mem_cons.mpr ⟨(N _ i2).1, List.forall_mem_cons.mpr ⟨(N _ i3).1, List.forall_mem_cons.mpr ⟨(N _ i4).1, fun q hq => (N _ (i5 q hq)).1⟩⟩⟩⟩)
  (case hb => exact List.forall_mem_cons.mpr ⟨(N _ i1).2.2, List.forall_mem_cons.mpr ⟨(N _ i2).2.2, List.forall_mem_cons.mpr ⟨(N _ i3).2.2, List.forall_mem_cons.mpr ⟨(N _ i4).2.2, fun q hq => (N _ (i5 q hq)).2.2⟩⟩⟩⟩)
  intro g L1 h₁ F' N' KX' T' lt xg
  have bkm := bk.mem
  have bkl := bk.len
  have hzl : (zsOf 0 bs).length = bs.length := zsOf_len 0 bs
  have w2 := hW.two
  have w6 := hW.six
  have wc := hW.cells
  have hin : ∀ b ∈ ((d, deckO di c tc nd) :: (di, listOf vs.toArray ni) :: (ca, listOf cvs.toArray nc) :: (S, listOf svs.toArray nS) :: bl).map (·.1), ∃ o, (b, o) ∈ news := fun b hb => by
    obtain ⟨p, hp, rfl⟩ := List.mem_map.mp hb
    refine ⟨p.2, ?_⟩
    rcases List.mem_cons.mp hp with rfl | hp
    · exact i1
    rcases List.mem_cons.mp hp with rfl | hp
    · exact i2
    rcases List.mem_cons.mp hp with rfl | hp
    · exact i3
    rcases List.mem_cons.mp hp with rfl | hp
    · exact i4
    · exact i5 p hp
  have hown : ∀ p ∈ (di, listOf vs.toArray ni) :: (S, listOf svs.toArray nS) :: bl, p ∈ news := List.forall_mem_cons.mpr ⟨i2, List.forall_mem_cons.mpr ⟨i4, i5⟩⟩
  have hds : ∀ b ∈ ((d, deckO di c tc nd) :: (di, listOf vs.toArray ni) :: (ca, listOf cvs.toArray nc) :: (S, listOf svs.toArray nS) :: bl).map (·.1), b = d ∨ b = ca ∨ ∃ p ∈ (di, listOf vs.toArray ni) :: (S, listOf svs.toArray nS) :: bl, p.1 = b := fun b hb => by
    obtain ⟨p, hp, rfl⟩ := List.mem_map.mp hb
    rcases List.mem_cons.mp hp with rfl | hp
    · exact .inl rfl
    rcases List.mem_cons.mp hp with rfl | hp
    · exact .inr (.inr ⟨_, .head _, rfl⟩)
    rcases List.mem_cons.mp hp with rfl | hp
    · exact .inr (.inl rfl)
    rcases List.mem_cons.mp hp with rfl | hp
    · exact .inr (.inr ⟨_, .tail _ (.head _), rfl⟩)
    · exact .inr (.inr ⟨p, .tail _ (.tail _ hp), rfl⟩)
  try dsimp only
  k_steps
  all_goals (try dsimp only)
  all_goals first | (
    rename Fr _ _ _ _ => Fz
    rename News _ _ _ _ => Nz
    rename (_ ∧ _) => lz
    rename IntsAre _ (List.set _ _ _) => hZ
    refine Lv.intro Fz fun x => ?_
    obtain ⟨F2, N2⟩ := back2 (a1 := d) (a2 := ca) (own := (di, listOf vs.toArray ni) :: (S, listOf svs.toArray nS) :: bl) (rest := rest) F N hin hown x
      (List.forall_mem_cons.mpr ⟨Nz.get (by k_mem), List.forall_mem_cons.mpr ⟨Nz.get (by k_mem), fun p hp => (Nz p (by (repeat' (first | exact hp | refine List.Mem.tail _ ?_)))).1⟩⟩) hds hr
    obtain ⟨f1, f2, f3⟩ := fresh_of F N xg (Nz _ (.head _)).2.2 (off_map (own := (d, deckO di c tc nd) :: (di, listOf vs.toArray ni) :: (ca, listOf cvs.toArray nc) :: (S, listOf svs.toArray nS) :: bl)
      (List.forall_mem_cons.mpr ⟨(by refine ltN ?_; (try dsimp only); omega), List.forall_mem_cons.mpr ⟨(by refine ltN ?_; (try dsimp only); omega), List.forall_mem_cons.mpr ⟨(by refine ltN ?_; (try dsimp only); omega), List.forall_mem_cons.mpr ⟨(by refine ltN ?_; (try dsimp only); omega), (by (repeat (replace lz := lz.2)); exact allLt_mem lz)⟩⟩⟩⟩))
    refine h _ _ _ _ _ _ _ _ _ _ _ _ _ ?_ hZ ?_ ?_ F2 (news_cons (news_cons (news_cons N2 (Nz.get (by k_mem)) ⟨(N _ i1).2.2, (N _ i1).2.1⟩) (Nz.get (by k_mem)) ⟨(N _ i3).2.2, (N _ i3).2.1⟩) (Nz.get (.head _)) ⟨f1, f2⟩) f3
    rotate_left
    · repeat (first | exact Int.le_refl _ | refine Int.le_add_one ?_)
    · simp only [Int.add_assoc]; exact Int.add_le_add_left (by decide) _
    first
      | exact way_header hW (by assumption) (menu_header (by assumption) (by assumption))
      | exact way_kind hW (by assumption) (by assumption) (by assumption)
      | exact way_length hW (by assumption) (by rw [if_pos (by assumption)])
      | exact way_length hW (by assumption) (by rw [if_neg (by assumption)])
      | exact way_field hW (by assumption) (by assumption) (by assumption) (menu_field (by assumption) (by assumption))
      | exact way_ref hW (by assumption) (by assumption) (by assumption) (by assumption) (by assumption)
      | (refine way_end hW (by assumption) ?_ (by assumption) (by assumption); omega)
      | (exfalso; omega)) | exact any34 (by assumption) (.inl (by assumption)) | exact any34 (by assumption) (.inr (by assumption))
end P14


section P15
theorem heapWhole_K {hp dx cl : Addr} {lim : Int} {t1 t2 t3 : Tok} {nc : Nat} {vs : List Value} {bs : List Blk}
    (F : Fr h₀ L s.heap m) (N : News h₀ L s.heap news) (X : (hd.heap_39 w.params).In h₀) (T : Top hd.view_39 (looseW hd.view_39 [Str.ofString "EMPTY_LIST"]) mean mg mb h₀) (o : Ok A 3)
    (i1 : (hp, instObj 227 dx) ∈ news) (i2 : (dx, heapD w cl lim t1 t2 t3) ∈ news) (i3 : (cl, listOf vs.toArray nc) ∈ news) (hv : IntsAre vs (cellsOf bs)) (hW : Whole bs)
    (h : ∀ h' tk', Fr h₀ L h' m → News h₀ L h' news → Q .none { s with heap := h', toks := tk' }) :
    wpAny (model PySem.Challenge.pw_nt0254_01 w) A (call (.ref 245) [.ref hp]) Q E s :=
  heapErr_K F N X T o i1 i2 i3 hv (by have := hW.cells; omega) hW.scan (fun _ => h) (fun a x e => by rw [hW.none] at e; cases e)
theorem heapDue_K {hp dx cl : Addr} {lim : Int} {t1 t2 t3 : Tok} {nc : Nat} {vs : List Value} {cs : List Int} {a : Int} {x : String}
    (F : Fr h₀ L s.heap m) (N : News h₀ L s.heap news) (X : (hd.heap_39 w.params).In h₀) (T : Top hd.view_39 (looseW hd.view_39 [Str.ofString "EMPTY_LIST"]) mean mg mb h₀) (o : Ok A 3)
    (i1 : (hp, instObj 227 dx) ∈ news) (i2 : (dx, heapD w cl lim t1 t2 t3) ∈ news) (i3 : (cl, listOf vs.toArray nc) ∈ news) (hv : IntsAre vs cs) (hd : Due cs a x)
    (h : ∀ R ta tx n h' tk', Fr h₀ L h' m → News h₀ L h' ((R, tupO #[.int a ta, .str (Str.ofString x) tx] n) :: news) → (∀ p ∈ news, @Ne Nat p.1 R) → Q (.ref R) { s with heap := h', toks := tk' }) :
    wpAny (model PySem.Challenge.pw_nt0254_01 w) A (call (.ref 245) [.ref hp]) Q E s := by
  obtain ⟨hl, zs, e, sc, he⟩ := hd
  exact heapErr_K F N X T o i1 i2 i3 hv hl sc (fun q => by rw [he] at q; cases q) (fun a' x' q => by rw [he] at q; cases q; exact h)
theorem heapNil_K {hp dx cl : Addr} {lim : Int} {t1 t2 t3 : Tok} {nc : Nat}
    (F : Fr h₀ L s.heap m) (N : News h₀ L s.heap news) (X : (hd.heap_39 w.params).In h₀) (T : Top hd.view_39 (looseW hd.view_39 [Str.ofString "EMPTY_LIST"]) mean mg mb h₀) (o : Ok A 3)
    (i1 : (hp, instObj 227 dx) ∈ news) (i2 : (dx, heapD w cl lim t1 t2 t3) ∈ news) (i3 : (cl, listOf #[] nc) ∈ news)
    (h : ∀ h' tk', Fr h₀ L h' m → News h₀ L h' news → Q .none { s with heap := h', toks := tk' }) :
    wpAny (model PySem.Challenge.pw_nt0254_01 w) A (call (.ref 245) [.ref hp]) Q E s :=
  heapErr_K (vs := []) (cs := []) (zs := []) (e := none) F N X T o i1 i2 i3 .nil (by decide) (.stop (by decide)) (fun _ => h) (fun a x e => by cases e)
theorem copyI_K {l : Addr} {n : Nat} {vs : List Value} {ns : List Int} (F : Fr h₀ L s.heap m) (N : News h₀ L s.heap news) (hm : (l, listOf vs.toArray n) ∈ news) (hi : IntsAre vs ns) (hl : ns.length ≤ 1000)
    (h : ∀ D c h', Fr h₀ L h' m → News h₀ L h' ((D, listOf vs.toArray c) :: news) → (∀ q ∈ news, @LT.lt Nat _ q.1 D) → Q (.ref D) { s with heap := h' }) :
    wpAny (model PySem.Challenge.pw_nt0254_01 w) A (call (.type "list") [.ref l]) Q E s :=
  list_copyK F N (News.isList N hm) h (by rw [sizeLine_eq, List.size_toArray, hi.length]; omega)
theorem badWord_word {zs : List Int} {x : String} : ∀ {ws : List Int}, badWord zs ws = some x → x = "field" ∨ x = "reference"
  | [], h => by cases h
  | y :: r, h => by
    unfold badWord at h
    split at h
    · exact .inl (Option.some.inj h).symm
    split at h
    · exact .inr (Option.some.inj h).symm
    · exact badWord_word h
theorem wrongF_word {cs zs : List Int} {a : Nat} {x : String} (h : wrongF cs zs a = some x) : x = "kind" ∨ x = "length" ∨ x = "end" ∨ x = "field" ∨ x = "reference" := by
  unfold wrongF at h
  split at h
  · exact .inl (Option.some.inj h).symm
  split at h
  · exact .inr (.inl (Option.some.inj h).symm)
  split at h
  · exact .inr (.inr (.inl (Option.some.inj h).symm))
  · exact .inr (.inr (.inr (badWord_word h)))
theorem firstF_word {cs all : List Int} {a : Int} {x : String} : ∀ {zs : List Int}, firstF cs all zs = some (a, x) → x = "kind" ∨ x = "length" ∨ x = "end" ∨ x = "field" ∨ x = "reference"
  | [], h => by cases h
  | z :: r, h => by
    unfold firstF at h
    split at h
    · rename_i y e
      have := Option.some.inj h
      rw [← (Prod.mk.inj this).2]
      exact wrongF_word e
    · exact firstF_word h
theorem Due.word {cs : List Int} {a : Int} {x : String} (d : Due cs a x) : PyData.strOk (Str.ofString x) = true := by
  obtain ⟨_, zs, e, _, h⟩ := d
  cases e with
  | some n => rw [← (Prod.mk.inj (Option.some.inj h)).2]; decide +kernel
  | none =>
    rcases firstF_word h with rfl | rfl | rfl | rfl | rfl <;> decide +kernel
theorem tupNe_K {t1 t2 : Addr} {cs : List Int} {a : Int} {x : String} {ta tb tx ty : Tok} {n1 n2 : Nat} (hu : A.units + 64 < cLine) (N : News h₀ L s.heap news) (h1 : (t1, tupO #[.int a ta, .str (Str.ofString x) tx] n1) ∈ news) (h2 : (t2, tupO #[.int a tb, .str (Str.ofString x) ty] n2) ∈ news)
    (d : Due cs a x) (h : Q (.bool false) s) : wpAny (model PySem.Challenge.pw_nt0254_01 w) A (compareOp .NotEq (.ref t1) (.ref t2)) Q E s := by
  have sh : PySem.SeqAt.shaped (.tuple [.int a, .str (Str.ofString x)]) = true := by
    simp [PySem.SeqAt.shaped, PyData.canLay0, PyData.canLayAll0, PyData.depth, PyData.depthAll, d.word]
  refine ne_dataH (da := .tuple [.int a, .str (Str.ofString x)]) (db := .tuple [.int a, .str (Str.ofString x)]) (reads_tuple_at (N.get h1) rfl rfl (.cons (.int _ _) (.cons (.str _ _) .nil))) (reads_tuple_at (N.get h2) rfl rfl (.cons (.int _ _) (.cons (.str _ _) .nil))) sh sh hu ?_
  simp only [PyData.eqv, PyData.eqvAll, beq_self_eq_true, Bool.and_true, Bool.not_true]
  exact h
theorem listNe_K {a b : Addr} {na nb : Nat} {vs : List Value} {ns : List Int} (hu : A.units + 64 < cLine) (N : News h₀ L s.heap news) (h1 : (a, listOf vs.toArray na) ∈ news) (h2 : (b, listOf vs.toArray nb) ∈ news) (hi : IntsAre vs ns)
    (h : Q (.bool false) s) : wpAny (model PySem.Challenge.pw_nt0254_01 w) A (compareOp .NotEq (.ref a) (.ref b)) Q E s :=
  ne_intsK (News.isList N h1) hi (News.isList N h2) hi hu (by rw [decide_eq_true rfl]; exact h)
theorem abs_pos {l : List Int} : ∀ x ∈ l.map (fun k => if k < 0 then -k else k), 0 ≤ x := by
  intro x hx
  obtain ⟨k, _, rfl⟩ := List.mem_map.mp hx
  split <;> omega
theorem abs_len {l : List Int} : ((l.take 63).map (fun k => if k < 0 then -k else k)).length ≤ 63 := by
  rw [List.length_map, List.length_take]; omega

local macro_rules | `(tactic| walk_at "call ref") => `(tactic| (k_here; (with_reducible show wpAny _ _ (call (Value.ref 245) [Value.ref _]) _ _ _); k_dflt (refine' heapNil_K ?F ?N ?X ?T ?o ?i1 ?i2 ?i3 ?_; (case F => k_asm); (case N => k_asm); (case X => k_asm); (case T => k_asm); (case o => walk_at "nt ok"); (case i1 => k_mem); (case i2 => k_mem); (case i3 => k_mem)); k_whole; intro h' tk' F' N'; (try k_sweep); (try dsimp only)))
local macro_rules | `(tactic| walk_at "call ref") => `(tactic| (k_here; (with_reducible show wpAny _ _ (call (Value.ref 245) [Value.ref _]) _ _ _); k_dflt (refine' heapWhole_K ?F ?N ?X ?T ?o ?i1 ?i2 ?i3 ?hv ?hW ?_; (case F => k_asm); (case N => k_asm); (case X => k_asm); (case T => k_asm); (case o => walk_at "nt ok"); (case i1 => k_mem); (case i2 => k_mem); (case i3 => k_mem); (case hv => assumption); (case hW => assumption)); k_whole; intro h' tk' F' N'; (try k_sweep); (try dsimp only)))
local macro_rules | `(tactic| walk_at "call ref") => `(tactic| (k_here; (with_reducible show wpAny _ _ (call (Value.ref 245) [Value.ref _]) _ _ _); k_dflt (refine' heapDue_K ?F ?N ?X ?T ?o ?i1 ?i2 ?i3 ?hv ?hd ?_; (case F => k_asm); (case N => k_asm); (case X => k_asm); (case T => k_asm); (case o => walk_at "nt ok"); (case i1 => k_mem); (case i2 => k_mem); (case i3 => k_mem); (case hv => assumption); (case hd => assumption)); k_whole; intro R' ta' tx' n' h' tk' F' N' lR'; (try k_sweep); (try dsimp only)))
local macro_rules | `(tactic| walk_at "call ref") => `(tactic| (k_here; (with_reducible show wpAny _ _ (call (Value.ref 271) [Value.ref _]) _ _ _); k_dflt (refine' lawHeap_K ?F ?N ?X ?T ?o ?hbl ?bk ?hb3 ?hbn ?_; (case bk => assumption); (case F => k_asm); (case N => k_asm); (case X => k_asm); (case T => k_asm); (case o => walk_at "nt ok"); (case hbl => walk_at "nt sub"); (case hb3 => (intro b9 hb9; exact (Whole.good (by assumption) b9 hb9).1.2.2.2)); (case hbn => exact Whole.six (by assumption))); k_whole; intro hp' dx' cl' t1' t2' t3' nc' vs' h' tk' F' N' hI' l1' l2' l3' l4' l5' l6'; (try k_sweep); (try dsimp only)))
local macro_rules | `(tactic| walk_at "call ref") => `(tactic| (k_here; (with_reducible show wpAny _ _ (call (Value.ref 278) [Value.ref _, Value.ref _, Value.ref _, Value.ref _]) _ _ _); refine Halt.mk ?_))

local macro_rules | `(tactic| walk_at "call type:list") => `(tactic| (k_here; (with_reducible show wpAny _ _ (call (Value.type "list") [Value.ref _]) _ _ _); k_dflt (refine' copyI_K ?F ?N ?hm ?hi ?hl ?_; (case F => k_asm); (case N => k_asm); (case hm => k_mem); (case hi => assumption); (case hl => first | ((have hw9 := Whole.cells (by assumption)); omega) | exact Due.len (by assumption))); k_whole; intro D' c' h' F' N' l1; (try k_lt l1); (try k_sweep); (try dsimp only)))
theorem okTop {env : Env} : Ok (callerA.deeper env) 5 := ⟨rfl, by show 1 + 300 + 1 + 5 < 1000; decide, by show 4 + 3 + 8 * 5 < 9900; decide⟩
theorem uTop {env : Env} : (callerA.deeper env).units + 64 < cLine := by show 4 + 3 + 64 < 9900; decide
local macro_rules | `(tactic| walk_at "compareOp NotEq ref ref") => `(tactic| (k_here; (with_reducible show wpAny _ _ (compareOp _ (Value.ref _) (Value.ref _)) _ _ _); k_dflt (refine' listNe_K ?hu ?N ?h1 ?h2 ?hi ?_; (case hu => exact uTop); (case N => k_asm); (case h1 => k_mem); (case h2 => k_mem); (case hi => assumption)); k_whole; (try dsimp only)))
local macro_rules | `(tactic| walk_at "compareOp NotEq ref ref") => `(tactic| (k_here; (with_reducible show wpAny _ _ (compareOp _ (Value.ref _) (Value.ref _)) _ _ _); k_dflt (refine' tupNe_K ?hu ?N ?h1 ?h2 ?d ?_; (case hu => exact uTop); (case N => k_asm); (case d => assumption); (case h1 => k_mem); (case h2 => k_mem)); k_whole; (try dsimp only)))
local macro_rules | `(tactic| walk_at "nt ok") => `(tactic| first | exact okTop | exact Ok.less okTop (by decide))
theorem lw : PySem.Challenge.rw_nt0254_01.Holds := Nt.hd rfl rfl rfl (by
  k_go0
  (all_goals try k_fold)
  k_steps
  all_goals (try dsimp only)
  rename_i ni di q1 tk1 q2 d q3 lt1 q4 q5 q6 q7 q8 q9 q10 I oI h01 It hP Fs Ns lI
  rename IntsAre _ (List.map _ _) => hI
  rename List Value => ys
  rename Shared => s1
  have hI0 := abs_pos (l := List.take 63 ‹List Int›)
  have hI1 := abs_len (l := ‹List Int›)
  generalize (List.map (fun k' => if k' < 0 then -k' else k') (List.take 63 ‹List Int›)) = ns at hI hI0 hI1
  refine for_sm (L := s1.heap.objs.size) (news := [(d, deckO di 0 tk1 0), (di, listOf ys.toArray ys.length)]) [Str.ofString "turn", Str.ofString "blocks", Str.ofString "starts", Str.ofString "store", Str.ofString "cells", Str.ofString "due"]
    (fun i nws => ∃ c tc, 0 ≤ c ∧ c ≤ 1010 * (i : Int) ∧ nws = [(d, deckO di c tc 0), (di, listOf ys.toArray ys.length)]) It hP rfl Fs (news_sub Ns (by walk_at "nt sub")) (fun p hp => lI p (by revert p; walk_at "nt sub")) ⟨0, tk1, by decide, by decide, rfl⟩ (fun _ _ _ _ _ _ => trivial) (letGo_pure fun _ => rfl) (fun _ _ x => x) ?_ ?_
  · rintro i v u nws h7 tk7 oI7 hi7 ⟨t7, rfl⟩ hP7 ⟨c7, tc7, hc0, hc7, rfl⟩ off F7 N7
    have hi8 : i < 3 := hi7
    have hdd : @LT.lt Nat _ di d := lt1.1
    have hdI : @LT.lt Nat _ d I := lI _ (.head _)
    have hiI : @LT.lt Nat _ di I := lI _ (.tail _ (.head _))
    clear Fs Ns lI hP hi7
    (try dsimp only)
    k_steps
    all_goals (try dsimp only)
    unfold Halt
    rename_i h90 tk90 R9 B9 S9 bl9 bvs9 nB9 svs9 nS9 nR9 bs9 c9 tc9 h80 tk80 hW9 hB9 hS9 hc91 hc92 fb9 fR9 fS9 h70 h60 h50 tk70 hp9 dx9 cl9 t19 t29 t39 nc9 vs9 h40 tk40 hI9 l19 l29 l39 l49 l59 l69 h30 tk30 h20 tk20 D9 cn9 h10 lD9 h00 F9 N9
    have m1 : @Ne Nat d D9 := Nat.ne_of_lt lD9.2.2.2.2.2.2.1
    have m2 : @Ne Nat di D9 := Nat.ne_of_lt lD9.2.2.2.2.2.2.2.1
    have m3 : @Ne Nat hp9 D9 := Nat.ne_of_lt lD9.1
    have m4 : @Ne Nat dx9 D9 := Nat.ne_of_lt lD9.2.1
    have m5 : @Ne Nat I D9 := Nat.ne_of_lt lD9.2.2.2.2.2.1
    have p1 : @Ne Nat I hp9 := l19 _ (.tail _ (.tail _ (.head _)))
    have p2 : @Ne Nat d hp9 := l19 _ (.tail _ (.tail _ (.tail _ (.head _))))
    have p3 : @Ne Nat di hp9 := l19 _ (.tail _ (.tail _ (.tail _ (.tail _ (.head _)))))
    have q1 : @Ne Nat I dx9 := l29 _ (.tail _ (.tail _ (.head _)))
    have q2 : @Ne Nat d dx9 := l29 _ (.tail _ (.tail _ (.tail _ (.head _))))
    have q3 : @Ne Nat di dx9 := l29 _ (.tail _ (.tail _ (.tail _ (.tail _ (.head _)))))
    have hdc : 0 ≤ c9 ∧ c9 ≤ 90000 ∧ @Ne Nat I d ∧ @Ne Nat di d := by omega
    refine spoilt_K (bl := bl9) (rest := [(hp9, instObj 227 dx9), (dx9, heapD _ cl9 60 t19 t29 t39), (I, oI7), (di, listOf ys.toArray ys.length)]) F9 N9 (by k_asm) (by k_asm) (by walk_at "nt ok") (by k_mem) (by k_mem) (by k_mem) (by k_mem) (by walk_at "nt sub") hI hI0 hI1 hdc.1 hdc.2.1 hdd hW9 hB9 hI9 hS9 m1 m2
      (Ne.symm (fS9 _ (.tail _ (.head _)))) (Nat.ne_of_lt lD9.2.2.2.2.1) (fun p hp => Ne.symm (fb9 p hp _ (.tail _ (.head _)))) (fun p hp => Nat.ne_of_lt (allLt_mem lD9.2.2.2.2.2.2.2.2 p hp))
      (List.forall_mem_cons.mpr ⟨⟨by k_mem, Ne.symm p2, m3⟩, List.forall_mem_cons.mpr ⟨⟨by k_mem, Ne.symm q2, m4⟩, List.forall_mem_cons.mpr ⟨⟨by k_mem, hdc.2.2.1, m5⟩, List.forall_mem_cons.mpr ⟨⟨by k_mem, hdc.2.2.2, m2⟩, List.forall_mem_nil _⟩⟩⟩⟩) ?_
    intro R8 a8 ta8 x8 tx8 nR8 cs8 cvs8 nc8 c8 tc8 h8 tk8 due8 hI8 hc81 hc82 F8 N8 f8
    have r1 : @Ne Nat D9 R8 := f8 _ (.head _)
    have r2 : @Ne Nat hp9 R8 := f8 _ (.tail _ (.head _))
    have r3 : @Ne Nat dx9 R8 := f8 _ (.tail _ (.tail _ (.head _)))
    have r4 : @Ne Nat I R8 := f8 (I, oI7) (by k_mem)
    have r5 : @Ne Nat d R8 := f8 (d, _) (by k_mem)
    have r6 : @Ne Nat di R8 := f8 (di, _) (by k_mem)
    clear F9 N9 f8 fb9 fR9 fS9 l19 l29 l39 lD9
    (try dsimp only)
    k_steps
    all_goals (try dsimp only)
    rename News _ _ _ _ => Nz
    refine TPs.intro [(d, deckO di c8 tc8 0), (di, listOf ys.toArray ys.length)] (by assumption) Nz (by walk_at "nt sub") (List.forall_mem_cons.mpr ⟨Nat.ne_of_lt hdI, List.forall_mem_cons.mpr ⟨Nat.ne_of_lt hiI, List.forall_mem_nil _⟩⟩) (by walk_at "nt same") ⟨c8, tc8, ?_, ?_, rfl⟩
    · clear m1 m2 m3 m4 m5 p1 p2 p3 q1 q2 q3 r1 r2 r3 r4 r5 r6; omega
    · clear m1 m2 m3 m4 m5 p1 p2 p3 q1 q2 q3 r1 r2 r3 r4 r5 r6; omega
  · rintro u nws h7 tk7 ⟨c7, tc7, hc0, hc7, rfl⟩ off F7 N7
    clear Fs Ns lI hP
    (try dsimp only)
    k_steps)
end P15


end Nt

theorem PySem.Challenge.cw_nt0254_01_holds : PySem.Challenge.rw_nt0254_01.Holds :=
  Nt.lw
