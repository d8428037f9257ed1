import PyProof.Rows.All
import Wide.All
import OpenK.AllK
import Wide.FinOn
import KE.KDictOf
import Lean
import PySem.Challenge.RW_nz0386_01
open PySem PySem.W PyProof.Rows
set_option Elab.async false
set_option maxRecDepth 100000
section
namespace Mine
theorem q1 {a b c:Nat} (h:a≤b) (d:b.ble c=true:=by rfl):a≤c:=Nat.le_trans h (Nat.le_of_ble_eq_true d)
theorem q2 {a b c d:Nat} (h:a≤b) (k:b≤c) (e:c.ble d=true:=by rfl):a≤d:=Nat.le_trans h (q1 k e)
theorem q3 {i k n m:Nat} (h:k≤n) (e:n.ble m=true:=by rfl):min i k≤m:=Nat.le_trans (Nat.min_le_right _ _) (q1 h e)
theorem q4 {k l n m:Nat} (hk:k < l) (hl:l≤n) (e:n.ble m=true:=by rfl):min k l+1+(l - (k+1))≤m:=by
 have:=q1 hl e
 rw [Nat.min_eq_left (Nat.le_of_lt hk),Nat.add_sub_cancel' hk];exact this
theorem q5 {a n m:Nat} (h:a=n) (e:n.ble m=true:=by rfl):a≤m:=q1 (Nat.le_of_eq h) e
theorem q6 {a n m:Nat} (h:a < n) (e:n.ble (m+1)=true:=by rfl):a≤m:=Nat.le_of_lt_succ (q1 h e)
theorem q7 {a n m k:Nat} (h:a≤n) (e:(n+k).ble m=true:=by rfl):a+k≤m:=q1 (Nat.add_le_add_right h k) e
theorem q8 {a b n m k:Nat} (h:a≤n) (h':b≤m) (e:(n+m).ble k=true:=by rfl):a+b≤k:=q1 (Nat.add_le_add h h') e
theorem q9 {a k m:Nat} (e:k.ble m=true:=by rfl):a+k≤a+m:=Nat.add_le_add_left (Nat.le_of_ble_eq_true e) a
theorem qa {a m:Nat}:a≤a+m:=Nat.le_add_right a m
theorem qc {i l:Nat} (h:i < l):l+1 - (i+1) < l+1 - i:=Nat.sub_lt_sub_left (Nat.lt_succ_of_lt h) (Nat.lt_succ_self i)
theorem qd {a:Nat}:(0:Int)≤a:=Int.natCast_nonneg a
theorem qe {a:Nat}:¬ ((a:Int) < 0):=Int.not_lt.mpr qd
theorem qf {a b:Nat}:((a:Int)=b↔a=b):=Int.ofNat_inj
theorem qg {a b:Nat}:((a:Int) < b↔a < b):=Int.ofNat_lt
theorem qh {a b n m:Nat} (h:a≤b) (k:b=n) (e:n.ble m=true:=by rfl):a≤m:=q1 (k▸h) e
theorem qi {a b n m:Nat} (h:a≤b) (k:b < n) (e:n.ble (m+1)=true:=by rfl):a≤m:=Nat.le_trans h (q6 k e)
theorem qk {a b n m:Nat} (h:a=b) (k:b≤n) (e:n.ble m=true:=by rfl):a≤m:=q1 (h▸k) e
theorem ql {a b n m:Nat} (h:a+b≤n) (e:n.ble m=true:=by rfl):a≤m:=q1 (Nat.le_of_add_right_le h) e
theorem fa_nil {α:Type} {P:α→Prop}:∀ q∈([]:List α),P q:=fun _ h=>nomatch h
theorem fa_cons {α:Type} {P:α→Prop} {a:α} {l:List α} (h:P a) (t:∀ q∈l,P q):∀ q∈a::l,P q:=List.forall_mem_cons.mpr ⟨h,t⟩
theorem mh1 {α:Type} {x0 x1:α} {l:List α}:x1∈x0::x1::l:=.tail _ (.head _)
theorem mh2 {α:Type} {x0 x1 x2:α} {l:List α}:x2∈x0::x1::x2::l:=.tail _ (.tail _ (.head _))
theorem mh3 {α:Type} {x0 x1 x2 x3:α} {l:List α}:x3∈x0::x1::x2::x3::l:=.tail _ (.tail _ (.tail _ (.head _)))
theorem mh4 {α:Type} {x0 x1 x2 x3 x4:α} {l:List α}:x4∈x0::x1::x2::x3::x4::l:=.tail _ (.tail _ (.tail _ (.tail _ (.head _))))
theorem mh5 {α:Type} {x0 x1 x2 x3 x4 x5:α} {l:List α}:x5∈x0::x1::x2::x3::x4::x5::l:=.tail _ (.tail _ (.tail _ (.tail _ (.tail _ (.head _)))))
theorem mh6 {α:Type} {x0 x1 x2 x3 x4 x5 x6:α} {l:List α}:x6∈x0::x1::x2::x3::x4::x5::x6::l:=.tail _ (.tail _ (.tail _ (.tail _ (.tail _ (.tail _ (.head _))))))
theorem mh7 {α:Type} {x0 x1 x2 x3 x4 x5 x6 x7:α} {l:List α}:x7∈x0::x1::x2::x3::x4::x5::x6::x7::l:=.tail _ (.tail _ (.tail _ (.tail _ (.tail _ (.tail _ (.tail _ (.head _)))))))
theorem mh8 {α:Type} {x0 x1 x2 x3 x4 x5 x6 x7 x8:α} {l:List α}:x8∈x0::x1::x2::x3::x4::x5::x6::x7::x8::l:=.tail _ (.tail _ (.tail _ (.tail _ (.tail _ (.tail _ (.tail _ (.tail _ (.head _))))))))
theorem mh9 {α:Type} {x0 x1 x2 x3 x4 x5 x6 x7 x8 x9:α} {l:List α}:x9∈x0::x1::x2::x3::x4::x5::x6::x7::x8::x9::l:=.tail _ (.tail _ (.tail _ (.tail _ (.tail _ (.tail _ (.tail _ (.tail _ (.tail _ (.head _)))))))))
theorem mh10 {α:Type} {x0 x1 x2 x3 x4 x5 x6 x7 x8 x9 x10:α} {l:List α}:x10∈x0::x1::x2::x3::x4::x5::x6::x7::x8::x9::x10::l:=.tail _ (.tail _ (.tail _ (.tail _ (.tail _ (.tail _ (.tail _ (.tail _ (.tail _ (.tail _ (.head _))))))))))
theorem mh12 {α:Type} {x0 x1 x2 x3 x4 x5 x6 x7 x8 x9 x10 x11 x12:α} {l:List α}:x12∈x0::x1::x2::x3::x4::x5::x6::x7::x8::x9::x10::x11::x12::l:=.tail _ (.tail _ (.tail _ (.tail _ (.tail _ (.tail _ (.tail _ (.tail _ (.tail _ (.tail _ (.tail _ (.tail _ (.head _))))))))))))
theorem mh13 {α:Type} {x0 x1 x2 x3 x4 x5 x6 x7 x8 x9 x10 x11 x12 x13:α} {l:List α}:x13∈x0::x1::x2::x3::x4::x5::x6::x7::x8::x9::x10::x11::x12::x13::l:=.tail _ (.tail _ (.tail _ (.tail _ (.tail _ (.tail _ (.tail _ (.tail _ (.tail _ (.tail _ (.tail _ (.tail _ (.tail _ (.head _)))))))))))))
theorem mh14 {α:Type} {x0 x1 x2 x3 x4 x5 x6 x7 x8 x9 x10 x11 x12 x13 x14:α} {l:List α}:x14∈x0::x1::x2::x3::x4::x5::x6::x7::x8::x9::x10::x11::x12::x13::x14::l:=.tail _ (.tail _ (.tail _ (.tail _ (.tail _ (.tail _ (.tail _ (.tail _ (.tail _ (.tail _ (.tail _ (.tail _ (.tail _ (.tail _ (.head _))))))))))))))
end Mine
end
section
set_option maxHeartbeats 8000000
namespace Mine
noncomputable abbrev pw:Program:=PySem.Challenge.pw_nz0386_01
noncomputable def keepL:List Nat:=[0,2,3,4,6,7,9,10,11,12,13,14,15,16,17,18,19,20,21,22,23,24]
noncomputable def vw:Program:=view pw keepL
noncomputable def fnAt (i:Nat):Arguments×List Stmt×Scope:=match pw.main.body[i]? with
 | some (.FunctionDef _ a b _ _ _ s _ _ _)=>(a,b,s)
 | _=>default
noncomputable def methAt (i j:Nat):Arguments×List Stmt×Scope:=match pw.main.body[i]? with
 | some (.ClassDef _ _ _ b _ _ _ _ _ _ _)=>(match b[j]? with
  | some (.FunctionDef _ a b _ _ _ s _ _ _)=>(a,b,s)
  | _=>default)
 | _=>default
noncomputable def KK (P:Params):Frag:=[
 (2,⟨.none,none,.dict #[⟨PyData.keyHash P "type.__subclasses__.Exception.0",(.str "type.__subclasses__.Exception.0" 230),(.int 47 0)⟩,⟨PyData.keyHash P "type.__subclasses__.Exception.n",(.str "type.__subclasses__.Exception.n" 231),(.int 1 0)⟩] 2,#[]⟩),
 (3,⟨(.type "dict"),none,.dict #[⟨PyData.keyHash P "__name__",(.str "__name__" 165),(.str "law_nz0386_01" 514)⟩,⟨PyData.keyHash P "__doc__",(.str "__doc__" 166),.none⟩,⟨PyData.keyHash P "__package__",(.str "__package__" 167),.none⟩,⟨PyData.keyHash P "__loader__",(.str "__loader__" 168),(.builtin "__main__.__loader__#opaque")⟩,⟨PyData.keyHash P "__spec__",(.str "__spec__" 169),.none⟩,⟨PyData.keyHash P "__annotations__",(.str "__annotations__" 170),(.ref 6)⟩,⟨PyData.keyHash P "__builtins__",(.str "__builtins__" 171),(.ref 4)⟩,⟨PyData.keyHash P "__file__",(.str "__file__" 173),(.str "/claim/cut.py" 172)⟩,⟨PyData.keyHash P "__cached__",(.str "__cached__" 174),.none⟩,⟨PyData.keyHash P "_wall",(.str "_wall" 193),(.ref 21)⟩,⟨PyData.keyHash P "FinderError",(.str "FinderError" 233),(.ref 47)⟩,⟨PyData.keyHash P "SpotFault",(.str "SpotFault" 268),(.ref 76)⟩,⟨PyData.keyHash P "KindFault",(.str "KindFault" 284),(.ref 88)⟩,⟨PyData.keyHash P "ORDERING",(.str "ORDERING" 288),(.str "util/ordering" 287)⟩,⟨PyData.keyHash P "Signatures",(.str "Signatures" 513),(.ref 257)⟩,⟨PyData.keyHash P "_law_pool",(.str "_law_pool" 524),(.ref 266)⟩,⟨PyData.keyHash P "_law_draw",(.str "_law_draw" 533),(.ref 273)⟩,⟨PyData.keyHash P "_law_sig",(.str "_law_sig" 548),(.ref 280)⟩,⟨PyData.keyHash P "_law_model",(.str "_law_model" 554),(.ref 285)⟩,⟨PyData.keyHash P "_law_rows",(.str "_law_rows" 560),(.ref 290)⟩,⟨PyData.keyHash P "_law_direct",(.str "_law_direct" 567),(.ref 297)⟩,⟨PyData.keyHash P "_law_told",(.str "_law_told" 573),(.ref 302)⟩,⟨PyData.keyHash P "_law_above",(.str "_law_above" 584),(.ref 309)⟩,⟨PyData.keyHash P "_law_groups",(.str "_law_groups" 590),(.ref 314)⟩,⟨PyData.keyHash P "_law_taken",(.str "_law_taken" 596),(.ref 319)⟩,⟨PyData.keyHash P "_law_put",(.str "_law_put" 606),(.ref 326)⟩,⟨PyData.keyHash P "_law_of_name",(.str "_law_of_name" 612),(.ref 331)⟩,⟨PyData.keyHash P "_law_bent_sigs",(.str "_law_bent_sigs" 618),(.ref 336)⟩,⟨PyData.keyHash P "_law_bent_rest",(.str "_law_bent_rest" 624),(.ref 341)⟩,⟨PyData.keyHash P "_law_spot",(.str "_law_spot" 632),(.ref 348)⟩,⟨PyData.keyHash P "law",(.str "law" 638),(.ref 353)⟩] 31,#[]⟩),
 (25,⟨(.type "cell"),none,.cell (some (.ref 47)),#[]⟩),
 (36,⟨(.type "code"),none,.fields #[(.str "__init__" 208),(.str "FinderError.__init__" 209),(.str "/claim/cut.py" 210),(.int 7 0),(.int 2 0),(.int 0 0),(.int 0 0),(.int 3 0),(.ref 31),(.bool true),(.int 181 0),(.ref 32),.none,(.ref 33),(.ref 34),(.ref 35),(.int 214 0),(.int 7 0),(.str "/claim/cut.py" 215)],#[]⟩),
 (37,⟨(.type "function"),none,.func {name:="__init__",qualname:="FinderError.__init__",params:=(methAt 2 0).1,body:=.stmts (methAt 2 0).2.1,scope:=(methAt 2 0).2.2,globals:=3,closure:=[("__class__",25)],defaults:=.none,kwdefaults:=.none,doc:=.none,pyModule:=(.str "relfinder.errors" 194),annotations:=none,code:=(.ref 36),closureTuple:=(.ref 30),builtins:=0},#[]⟩),
 (46,⟨(.type "dict"),none,.dict #[⟨PyData.keyHash P "__module__",(.str "__module__" 203),(.str "relfinder.errors" 194)⟩,⟨PyData.keyHash P "__firstlineno__",(.str "__firstlineno__" 207),(.int 5 206)⟩,⟨PyData.keyHash P "__init__",(.str "__init__" 216),(.ref 37)⟩,⟨PyData.keyHash P "told",(.str "told" 223),(.ref 44)⟩,⟨PyData.keyHash P "__static_attributes__",(.str "__static_attributes__" 225),(.ref 45)⟩,⟨PyData.keyHash P "__weakref__",(.str "__weakref__" 228),(.ref 48)⟩,⟨PyData.keyHash P "__doc__",(.str "__doc__" 229),.none⟩] 4,#[]⟩),
 (47,⟨(.type "type"),none,.cls {name:="FinderError",bases:=[(.type "Exception")],mro:=[(.ref 47),(.type "Exception"),(.type "BaseException"),(.type "object")],ns:=46,qualname:="FinderError",hasDict:=true,slotNames:=[],subclasses:=[(.ref 76)],abstract:=false,collection:=none,hasDel:=false},#[(some (.ref 22)),none,(some (.str "FinderError" 196)),(some (.str "FinderError" 204)),(some (.builtin "Exception.__new__")),(some (.bool true))]⟩),
 (54,⟨(.type "cell"),none,.cell (some (.ref 76)),#[]⟩),
 (65,⟨(.type "code"),none,.fields #[(.str "__init__" 246),(.str "SpotFault.__init__" 247),(.str "/claim/cut.py" 248),(.int 15 0),(.int 3 0),(.int 0 0),(.int 0 0),(.int 3 0),(.ref 60),(.bool true),(.int 181 0),(.ref 61),.none,(.ref 62),(.ref 63),(.ref 64),(.int 253 0),(.int 15 0),(.str "/claim/cut.py" 254)],#[]⟩),
 (66,⟨(.type "function"),none,.func {name:="__init__",qualname:="SpotFault.__init__",params:=(methAt 3 0).1,body:=.stmts (methAt 3 0).2.1,scope:=(methAt 3 0).2.2,globals:=3,closure:=[("__class__",54)],defaults:=.none,kwdefaults:=.none,doc:=.none,pyModule:=(.str "relfinder.errors" 194),annotations:=none,code:=(.ref 65),closureTuple:=(.ref 59),builtins:=0},#[]⟩),
 (75,⟨(.type "dict"),none,.dict #[⟨PyData.keyHash P "__module__",(.str "__module__" 241),(.str "relfinder.errors" 194)⟩,⟨PyData.keyHash P "__firstlineno__",(.str "__firstlineno__" 245),(.int 13 244)⟩,⟨PyData.keyHash P "__init__",(.str "__init__" 255),(.ref 66)⟩,⟨PyData.keyHash P "told",(.str "told" 262),(.ref 73)⟩,⟨PyData.keyHash P "__static_attributes__",(.str "__static_attributes__" 264),(.ref 74)⟩,⟨PyData.keyHash P "__doc__",(.str "__doc__" 266),.none⟩] 3,#[]⟩),
 (76,⟨(.type "type"),none,.cls {name:="SpotFault",bases:=[(.ref 47)],mro:=[(.ref 76),(.ref 47),(.type "Exception"),(.type "BaseException"),(.type "object")],ns:=75,qualname:="SpotFault",hasDict:=true,slotNames:=[],subclasses:=[(.ref 88)],abstract:=false,collection:=none,hasDel:=false},#[(some (.ref 51)),none,(some (.str "SpotFault" 234)),(some (.str "SpotFault" 242)),(some (.builtin "Exception.__new__")),(some (.bool true))]⟩),
 (87,⟨(.type "dict"),none,.dict #[⟨PyData.keyHash P "__module__",(.str "__module__" 276),(.str "relfinder.errors" 194)⟩,⟨PyData.keyHash P "__firstlineno__",(.str "__firstlineno__" 280),(.int 21 279)⟩,⟨PyData.keyHash P "__static_attributes__",(.str "__static_attributes__" 281),(.ref 86)⟩,⟨PyData.keyHash P "__doc__",(.str "__doc__" 282),.none⟩] 2,#[]⟩),
 (88,⟨(.type "type"),none,.cls {name:="KindFault",bases:=[(.ref 76)],mro:=[(.ref 88),(.ref 76),(.ref 47),(.type "Exception"),(.type "BaseException"),(.type "object")],ns:=87,qualname:="KindFault",hasDict:=true,slotNames:=[],subclasses:=[],abstract:=false,collection:=none,hasDel:=false},#[(some (.ref 79)),none,(some (.str "KindFault" 269)),(some (.str "KindFault" 277)),(some (.builtin "Exception.__new__")),(some (.bool true))]⟩),
 (104,⟨(.type "function"),none,.func {name:="__init__",qualname:="Signatures.__init__",params:=(methAt 7 0).1,body:=.stmts (methAt 7 0).2.1,scope:=(methAt 7 0).2.2,globals:=3,closure:=[],defaults:=.none,kwdefaults:=.none,doc:=.none,pyModule:=(.str "relfinder.sigs" 285),annotations:=none,code:=(.ref 103),closureTuple:=.none,builtins:=0},#[]⟩),
 (111,⟨(.type "function"),none,.func {name:="take_sig",qualname:="Signatures.take_sig",params:=(methAt 7 1).1,body:=.stmts (methAt 7 1).2.1,scope:=(methAt 7 1).2.2,globals:=3,closure:=[],defaults:=.none,kwdefaults:=.none,doc:=.none,pyModule:=(.str "relfinder.sigs" 285),annotations:=none,code:=(.ref 110),closureTuple:=.none,builtins:=0},#[]⟩),
 (118,⟨(.type "function"),none,.func {name:="look_above",qualname:="Signatures.look_above",params:=(methAt 7 2).1,body:=.stmts (methAt 7 2).2.1,scope:=(methAt 7 2).2.2,globals:=3,closure:=[],defaults:=.none,kwdefaults:=.none,doc:=.none,pyModule:=(.str "relfinder.sigs" 285),annotations:=none,code:=(.ref 117),closureTuple:=.none,builtins:=0},#[]⟩),
 (125,⟨(.type "function"),none,.func {name:="direct",qualname:="Signatures.direct",params:=(methAt 7 3).1,body:=.stmts (methAt 7 3).2.1,scope:=(methAt 7 3).2.2,globals:=3,closure:=[],defaults:=.none,kwdefaults:=.none,doc:=.none,pyModule:=(.str "relfinder.sigs" 285),annotations:=none,code:=(.ref 124),closureTuple:=.none,builtins:=0},#[]⟩),
 (130,⟨(.type "function"),none,.func {name:="parents_first",qualname:="Signatures.parents_first",params:=(methAt 7 4).1,body:=.stmts (methAt 7 4).2.1,scope:=(methAt 7 4).2.2,globals:=3,closure:=[],defaults:=.none,kwdefaults:=.none,doc:=.none,pyModule:=(.str "relfinder.sigs" 285),annotations:=none,code:=(.ref 129),closureTuple:=.none,builtins:=0},#[]⟩),
 (137,⟨(.type "function"),none,.func {name:="all_fields",qualname:="Signatures.all_fields",params:=(methAt 7 5).1,body:=.stmts (methAt 7 5).2.1,scope:=(methAt 7 5).2.2,globals:=3,closure:=[],defaults:=.none,kwdefaults:=.none,doc:=.none,pyModule:=(.str "relfinder.sigs" 285),annotations:=none,code:=(.ref 136),closureTuple:=.none,builtins:=0},#[]⟩),
 (144,⟨(.type "function"),none,.func {name:="look_fields",qualname:="Signatures.look_fields",params:=(methAt 7 6).1,body:=.stmts (methAt 7 6).2.1,scope:=(methAt 7 6).2.2,globals:=3,closure:=[],defaults:=.none,kwdefaults:=.none,doc:=.none,pyModule:=(.str "relfinder.sigs" 285),annotations:=none,code:=(.ref 143),closureTuple:=.none,builtins:=0},#[]⟩),
 (149,⟨(.type "function"),none,.func {name:="take_order",qualname:="Signatures.take_order",params:=(methAt 7 7).1,body:=.stmts (methAt 7 7).2.1,scope:=(methAt 7 7).2.2,globals:=3,closure:=[],defaults:=.none,kwdefaults:=.none,doc:=.none,pyModule:=(.str "relfinder.sigs" 285),annotations:=none,code:=(.ref 148),closureTuple:=.none,builtins:=0},#[]⟩),
 (156,⟨(.type "function"),none,.func {name:="names",qualname:="Signatures.names",params:=(methAt 7 8).1,body:=.stmts (methAt 7 8).2.1,scope:=(methAt 7 8).2.2,globals:=3,closure:=[],defaults:=.none,kwdefaults:=.none,doc:=.none,pyModule:=(.str "relfinder.sigs" 285),annotations:=none,code:=(.ref 155),closureTuple:=.none,builtins:=0},#[]⟩),
 (163,⟨(.type "function"),none,.func {name:="has",qualname:="Signatures.has",params:=(methAt 7 9).1,body:=.stmts (methAt 7 9).2.1,scope:=(methAt 7 9).2.2,globals:=3,closure:=[],defaults:=.none,kwdefaults:=.none,doc:=.none,pyModule:=(.str "relfinder.sigs" 285),annotations:=none,code:=(.ref 162),closureTuple:=.none,builtins:=0},#[]⟩),
 (170,⟨(.type "function"),none,.func {name:="spot",qualname:="Signatures.spot",params:=(methAt 7 10).1,body:=.stmts (methAt 7 10).2.1,scope:=(methAt 7 10).2.2,globals:=3,closure:=[],defaults:=.none,kwdefaults:=.none,doc:=.none,pyModule:=(.str "relfinder.sigs" 285),annotations:=none,code:=(.ref 169),closureTuple:=.none,builtins:=0},#[]⟩),
 (177,⟨(.type "function"),none,.func {name:="parent",qualname:="Signatures.parent",params:=(methAt 7 11).1,body:=.stmts (methAt 7 11).2.1,scope:=(methAt 7 11).2.2,globals:=3,closure:=[],defaults:=.none,kwdefaults:=.none,doc:=.none,pyModule:=(.str "relfinder.sigs" 285),annotations:=none,code:=(.ref 176),closureTuple:=.none,builtins:=0},#[]⟩),
 (184,⟨(.type "function"),none,.func {name:="supers",qualname:="Signatures.supers",params:=(methAt 7 12).1,body:=.stmts (methAt 7 12).2.1,scope:=(methAt 7 12).2.2,globals:=3,closure:=[],defaults:=.none,kwdefaults:=.none,doc:=.none,pyModule:=(.str "relfinder.sigs" 285),annotations:=none,code:=(.ref 183),closureTuple:=.none,builtins:=0},#[]⟩),
 (191,⟨(.type "function"),none,.func {name:="is_subset",qualname:="Signatures.is_subset",params:=(methAt 7 13).1,body:=.stmts (methAt 7 13).2.1,scope:=(methAt 7 13).2.2,globals:=3,closure:=[],defaults:=.none,kwdefaults:=.none,doc:=.none,pyModule:=(.str "relfinder.sigs" 285),annotations:=none,code:=(.ref 190),closureTuple:=.none,builtins:=0},#[]⟩),
 (219,⟨(.type "function"),none,.func {name:="all_above",qualname:="Signatures.all_above",params:=(methAt 7 17).1,body:=.stmts (methAt 7 17).2.1,scope:=(methAt 7 17).2.2,globals:=3,closure:=[],defaults:=.none,kwdefaults:=.none,doc:=.none,pyModule:=(.str "relfinder.sigs" 285),annotations:=none,code:=(.ref 218),closureTuple:=.none,builtins:=0},#[]⟩),
 (233,⟨(.type "function"),none,.func {name:="mult",qualname:="Signatures.mult",params:=(methAt 7 19).1,body:=.stmts (methAt 7 19).2.1,scope:=(methAt 7 19).2.2,globals:=3,closure:=[],defaults:=.none,kwdefaults:=.none,doc:=.none,pyModule:=(.str "relfinder.sigs" 285),annotations:=none,code:=(.ref 232),closureTuple:=.none,builtins:=0},#[]⟩),
 (240,⟨(.type "function"),none,.func {name:="fields",qualname:="Signatures.fields",params:=(methAt 7 20).1,body:=.stmts (methAt 7 20).2.1,scope:=(methAt 7 20).2.2,globals:=3,closure:=[],defaults:=.none,kwdefaults:=.none,doc:=.none,pyModule:=(.str "relfinder.sigs" 285),annotations:=none,code:=(.ref 239),closureTuple:=.none,builtins:=0},#[]⟩),
 (256,⟨(.type "dict"),none,.dict #[⟨PyData.keyHash P "__module__",(.str "__module__" 296),(.str "relfinder.sigs" 285)⟩,⟨PyData.keyHash P "__firstlineno__",(.str "__firstlineno__" 300),(.int 25 299)⟩,⟨PyData.keyHash P "__init__",(.str "__init__" 310),(.ref 104)⟩,⟨PyData.keyHash P "take_sig",(.str "take_sig" 319),(.ref 111)⟩,⟨PyData.keyHash P "look_above",(.str "look_above" 328),(.ref 118)⟩,⟨PyData.keyHash P "direct",(.str "direct" 336),(.ref 125)⟩,⟨PyData.keyHash P "parents_first",(.str "parents_first" 342),(.ref 130)⟩,⟨PyData.keyHash P "all_fields",(.str "all_fields" 358),(.ref 137)⟩,⟨PyData.keyHash P "look_fields",(.str "look_fields" 373),(.ref 144)⟩,⟨PyData.keyHash P "take_order",(.str "take_order" 379),(.ref 149)⟩,⟨PyData.keyHash P "names",(.str "names" 386),(.ref 156)⟩,⟨PyData.keyHash P "has",(.str "has" 394),(.ref 163)⟩,⟨PyData.keyHash P "spot",(.str "spot" 402),(.ref 170)⟩,⟨PyData.keyHash P "parent",(.str "parent" 410),(.ref 177)⟩,⟨PyData.keyHash P "supers",(.str "supers" 418),(.ref 184)⟩,⟨PyData.keyHash P "is_subset",(.str "is_subset" 426),(.ref 191)⟩,⟨PyData.keyHash P "children",(.str "children" 434),(.ref 198)⟩,⟨PyData.keyHash P "above",(.str "above" 443),(.ref 205)⟩,⟨PyData.keyHash P "top",(.str "top" 451),(.ref 212)⟩,⟨PyData.keyHash P "all_above",(.str "all_above" 462),(.ref 219)⟩,⟨PyData.keyHash P "is_abstract",(.str "is_abstract" 470),(.ref 226)⟩,⟨PyData.keyHash P "mult",(.str "mult" 478),(.ref 233)⟩,⟨PyData.keyHash P "fields",(.str "fields" 485),(.ref 240)⟩,⟨PyData.keyHash P "facts",(.str "facts" 493),(.ref 247)⟩,⟨PyData.keyHash P "orders",(.str "orders" 500),(.ref 254)⟩,⟨PyData.keyHash P "__static_attributes__",(.str "__static_attributes__" 506),(.ref 255)⟩,⟨PyData.keyHash P "__dict__",(.str "__dict__" 508),(.ref 258)⟩,⟨PyData.keyHash P "__weakref__",(.str "__weakref__" 510),(.ref 259)⟩,⟨PyData.keyHash P "__doc__",(.str "__doc__" 511),.none⟩] 4,#[]⟩),
 (257,⟨(.type "type"),none,.cls {name:="Signatures",bases:=[(.type "object")],mro:=[(.ref 257),(.type "object")],ns:=256,qualname:="Signatures",hasDict:=true,slotNames:=[],subclasses:=[],abstract:=false,collection:=none,hasDel:=false},#[none,none,(some (.str "Signatures" 289)),(some (.str "Signatures" 297)),(some (.builtin "object.__new__")),(some (.bool true))]⟩),
 (262,⟨(.type "tuple"),none,.seq #[(.str "A" 516),(.str "B" 517)] 0,#[]⟩),
 (263,⟨(.type "tuple"),none,.seq #[(.str "C" 518),(.str "D" 519)] 0,#[]⟩),
 (264,⟨(.type "tuple"),none,.seq #[(.str "F" 520),(.str "G" 521)] 0,#[]⟩),
 (265,⟨(.type "tuple"),none,.seq #[(.str "P" 522),(.str "Q" 523)] 0,#[]⟩),
 (266,⟨(.type "tuple"),none,.seq #[(.ref 262),(.ref 263),(.ref 264),(.ref 265)] 0,#[]⟩),
 (273,⟨(.type "function"),none,.func {name:="_law_draw",qualname:="_law_draw",params:=(fnAt 10).1,body:=.stmts (fnAt 10).2.1,scope:=(fnAt 10).2.2,globals:=3,closure:=[],defaults:=.none,kwdefaults:=.none,doc:=.none,pyModule:=(.str "law_nz0386_01" 514),annotations:=none,code:=(.ref 272),closureTuple:=.none,builtins:=0},#[]⟩),
 (280,⟨(.type "function"),none,.func {name:="_law_sig",qualname:="_law_sig",params:=(fnAt 11).1,body:=.stmts (fnAt 11).2.1,scope:=(fnAt 11).2.2,globals:=3,closure:=[],defaults:=.none,kwdefaults:=.none,doc:=.none,pyModule:=(.str "law_nz0386_01" 514),annotations:=none,code:=(.ref 279),closureTuple:=.none,builtins:=0},#[]⟩),
 (285,⟨(.type "function"),none,.func {name:="_law_model",qualname:="_law_model",params:=(fnAt 12).1,body:=.stmts (fnAt 12).2.1,scope:=(fnAt 12).2.2,globals:=3,closure:=[],defaults:=.none,kwdefaults:=.none,doc:=.none,pyModule:=(.str "law_nz0386_01" 514),annotations:=none,code:=(.ref 284),closureTuple:=.none,builtins:=0},#[]⟩),
 (290,⟨(.type "function"),none,.func {name:="_law_rows",qualname:="_law_rows",params:=(fnAt 13).1,body:=.stmts (fnAt 13).2.1,scope:=(fnAt 13).2.2,globals:=3,closure:=[],defaults:=.none,kwdefaults:=.none,doc:=.none,pyModule:=(.str "law_nz0386_01" 514),annotations:=none,code:=(.ref 289),closureTuple:=.none,builtins:=0},#[]⟩),
 (297,⟨(.type "function"),none,.func {name:="_law_direct",qualname:="_law_direct",params:=(fnAt 14).1,body:=.stmts (fnAt 14).2.1,scope:=(fnAt 14).2.2,globals:=3,closure:=[],defaults:=.none,kwdefaults:=.none,doc:=.none,pyModule:=(.str "law_nz0386_01" 514),annotations:=none,code:=(.ref 296),closureTuple:=.none,builtins:=0},#[]⟩),
 (302,⟨(.type "function"),none,.func {name:="_law_told",qualname:="_law_told",params:=(fnAt 15).1,body:=.stmts (fnAt 15).2.1,scope:=(fnAt 15).2.2,globals:=3,closure:=[],defaults:=.none,kwdefaults:=.none,doc:=.none,pyModule:=(.str "law_nz0386_01" 514),annotations:=none,code:=(.ref 301),closureTuple:=.none,builtins:=0},#[]⟩),
 (309,⟨(.type "function"),none,.func {name:="_law_above",qualname:="_law_above",params:=(fnAt 16).1,body:=.stmts (fnAt 16).2.1,scope:=(fnAt 16).2.2,globals:=3,closure:=[],defaults:=.none,kwdefaults:=.none,doc:=.none,pyModule:=(.str "law_nz0386_01" 514),annotations:=none,code:=(.ref 308),closureTuple:=.none,builtins:=0},#[]⟩),
 (314,⟨(.type "function"),none,.func {name:="_law_groups",qualname:="_law_groups",params:=(fnAt 17).1,body:=.stmts (fnAt 17).2.1,scope:=(fnAt 17).2.2,globals:=3,closure:=[],defaults:=.none,kwdefaults:=.none,doc:=.none,pyModule:=(.str "law_nz0386_01" 514),annotations:=none,code:=(.ref 313),closureTuple:=.none,builtins:=0},#[]⟩),
 (319,⟨(.type "function"),none,.func {name:="_law_taken",qualname:="_law_taken",params:=(fnAt 18).1,body:=.stmts (fnAt 18).2.1,scope:=(fnAt 18).2.2,globals:=3,closure:=[],defaults:=.none,kwdefaults:=.none,doc:=.none,pyModule:=(.str "law_nz0386_01" 514),annotations:=none,code:=(.ref 318),closureTuple:=.none,builtins:=0},#[]⟩),
 (326,⟨(.type "function"),none,.func {name:="_law_put",qualname:="_law_put",params:=(fnAt 19).1,body:=.stmts (fnAt 19).2.1,scope:=(fnAt 19).2.2,globals:=3,closure:=[],defaults:=.none,kwdefaults:=.none,doc:=.none,pyModule:=(.str "law_nz0386_01" 514),annotations:=none,code:=(.ref 325),closureTuple:=.none,builtins:=0},#[]⟩),
 (331,⟨(.type "function"),none,.func {name:="_law_of_name",qualname:="_law_of_name",params:=(fnAt 20).1,body:=.stmts (fnAt 20).2.1,scope:=(fnAt 20).2.2,globals:=3,closure:=[],defaults:=.none,kwdefaults:=.none,doc:=.none,pyModule:=(.str "law_nz0386_01" 514),annotations:=none,code:=(.ref 330),closureTuple:=.none,builtins:=0},#[]⟩),
 (336,⟨(.type "function"),none,.func {name:="_law_bent_sigs",qualname:="_law_bent_sigs",params:=(fnAt 21).1,body:=.stmts (fnAt 21).2.1,scope:=(fnAt 21).2.2,globals:=3,closure:=[],defaults:=.none,kwdefaults:=.none,doc:=.none,pyModule:=(.str "law_nz0386_01" 514),annotations:=none,code:=(.ref 335),closureTuple:=.none,builtins:=0},#[]⟩),
 (341,⟨(.type "function"),none,.func {name:="_law_bent_rest",qualname:="_law_bent_rest",params:=(fnAt 22).1,body:=.stmts (fnAt 22).2.1,scope:=(fnAt 22).2.2,globals:=3,closure:=[],defaults:=.none,kwdefaults:=.none,doc:=.none,pyModule:=(.str "law_nz0386_01" 514),annotations:=none,code:=(.ref 340),closureTuple:=.none,builtins:=0},#[]⟩),
 (348,⟨(.type "function"),none,.func {name:="_law_spot",qualname:="_law_spot",params:=(fnAt 23).1,body:=.stmts (fnAt 23).2.1,scope:=(fnAt 23).2.2,globals:=3,closure:=[],defaults:=.none,kwdefaults:=.none,doc:=.none,pyModule:=(.str "law_nz0386_01" 514),annotations:=none,code:=(.ref 347),closureTuple:=.none,builtins:=0},#[]⟩),
 (353,⟨(.type "function"),none,.func {name:="law",qualname:="law",params:=(fnAt 24).1,body:=.stmts (fnAt 24).2.1,scope:=(fnAt 24).2.2,globals:=3,closure:=[],defaults:=.none,kwdefaults:=.none,doc:=.none,pyModule:=(.str "law_nz0386_01" 514),annotations:=none,code:=(.ref 352),closureTuple:=.none,builtins:=0},#[]⟩)]
noncomputable def codes:List (Addr×Str×Tok):=[⟨36,"FinderError.__init__",209⟩,⟨65,"SpotFault.__init__",247⟩,⟨103,"Signatures.__init__",302⟩,⟨110,"Signatures.take_sig",312⟩,⟨117,"Signatures.look_above",321⟩,⟨124,"Signatures.direct",330⟩,⟨129,"Signatures.parents_first",338⟩,⟨136,"Signatures.all_fields",344⟩,⟨143,"Signatures.look_fields",360⟩,⟨148,"Signatures.take_order",375⟩,⟨155,"Signatures.names",381⟩,⟨162,"Signatures.has",388⟩,⟨169,"Signatures.spot",396⟩,⟨176,"Signatures.parent",404⟩,⟨183,"Signatures.supers",412⟩,⟨190,"Signatures.is_subset",420⟩,⟨218,"Signatures.all_above",453⟩,⟨232,"Signatures.mult",472⟩,⟨239,"Signatures.fields",480⟩,⟨272,"_law_draw",526⟩,⟨279,"_law_sig",535⟩,⟨284,"_law_model",550⟩,⟨289,"_law_rows",556⟩,⟨296,"_law_direct",562⟩,⟨301,"_law_told",569⟩,⟨308,"_law_above",575⟩,⟨313,"_law_groups",586⟩,⟨318,"_law_taken",592⟩,⟨325,"_law_put",598⟩,⟨330,"_law_of_name",608⟩,⟨335,"_law_bent_sigs",614⟩,⟨340,"_law_bent_rest",620⟩,⟨347,"_law_spot",626⟩,⟨352,"law",634⟩]
noncomputable def codeName (o:Obj):Option Value:=match o.data with
 | .fields vs=>vs[1]?
 | _=>none
noncomputable def kAddrs:List Addr:=[2,3,25,36,37,46,47,54,65,66,75,76,87,88,104,111,118,125,130,137,144,149,156,163,170,177,184,191,219,233,240,256,257,262,263,264,265,266,273,280,285,290,297,302,309,314,319,326,331,336,341,348,353]
noncomputable def hk:Hook where
 α:=List (Option Obj)×List (Option (Option Value))
 obs:=fun s=>(kAddrs.map s.heap.get?,codes.map fun c=>(s.heap.get? c.1).map codeName)
 val:=fun w=>((KK w.params).map fun p=>some p.2,codes.map fun c=>some (some (.str c.2.1 c.2.2)))
 says:=fun w h=>(KK w.params).In h∧∀ c∈codes,h.CodeRec (.ref c.1) c.2.1
 of:=fun w s e=>by
  refine ⟨Frag.in_of (as:=kAddrs) rfl (congrArg Prod.fst e),fun c hc=>?_⟩
  have e2:=congrArg Prod.snd e
  dsimp only at e2
  have e3:=List.map_inj_left.mp e2 c hc
  obtain ⟨o,ho,hv⟩:=Option.map_eq_some_iff.mp e3
  unfold codeName at hv
  split at hv
  ·rename_i vs hd
   exact ⟨c.1,o,vs,c.2.2,rfl,ho,hd,hv⟩
  ·cases hv
 keeps:=fun w h h' x k=>⟨x.1.keeps k,fun c hc=>let ⟨a,o,vs,t,h1,h2,h3⟩:=x.2 c hc;⟨a,o,vs,t,h1,k _ _ h2,h3⟩⟩
noncomputable abbrev rr:=PySem.Challenge.rw_nz0386_01.row
noncomputable def topRunG (okF:Nat→Option Value→Thread→Bool) (stF:(Code→Sem Fin)→Program→World→SharedT→Thread→Option (SharedT×Thread)) (den:Code→Sem Fin) (p:Program) (w:World) (n₀:Nat) (ann:Option Value):Nat→SharedT→Thread→Option SharedT
 | 0,_,_=>none
 | n+1,s,t=>match through t with
  | true=>some s
  | false=>match okF n₀ ann t with
   | false=>none
   | true=>match stF den p w s t with
    | some (s',t')=>topRunG okF stF den p w n₀ ann n s' t'
    | none=>none
theorem topRunG_of {tb:String→Option Builtin} {p:Program} {w:World} {n₀:Nat} {ann:Option Value} {n:Nat}:∀ {s s':SharedT} {t:Thread},topRunG stepOk stepT (denote tb) p w n₀ ann n s t=some s'→topRun tb p w n₀ ann n s.abs t=some s'.abs:=by
 induction n with
 | zero=>exact fun h=>nomatch h
 | succ n ih=>
  intro s s' t h
  unfold topRunG at h
  unfold topRun
  cases he:through t with
  | true=>rewrite [he] at h;cases h;rfl
  | false=>
   rewrite [he] at h
   cases hk:stepOk n₀ ann t with
   | false=>rewrite [hk] at h;cases h
   | true=>
    rewrite [hk] at h
    cases hs:stepT (denote tb) p w s t with
    | none=>rewrite [hs] at h;cases h
    | some r=>obtain ⟨s₂,t₂⟩:=r;rewrite [hs] at h;rewrite [stepT_spec hs];exact ih h
noncomputable def ck (p:Program) (h:Heap) (s:Shared):Bool:=staticsOk (importedModules p.main.body) h s.heap&&namesBound p s.heap&&gensDone s&&laidKept h s.heap
theorem topFrom_of {tb:String→Option Builtin} {p:Program} {w:World} {N:Nat} {s s1:Shared} (z:(s.heap.isNs mainGlobals&&s.gens.size==0)=true)
  (h:topRun tb p w s.heap.objs.size (s.heap.nsMap mainGlobals "__annotations__") N s (topStub p)=some s1) (c:ck p s.heap s1=true):topFrom tb p w N s=some s1:=by
 unfold ck at c
 unfold topFrom
 rewrite [z,h]
 show (match staticsOk (importedModules p.main.body) s.heap s1.heap&&namesBound p s1.heap&&gensDone s1&&laidKept s.heap s1.heap with | true=>some s1 | false=>none)=some s1
 rewrite [c]
 rfl
theorem left_of {p:Program} {α β:Type} {sn:Shared→β} {gd:β} {Yf:Shared→α} {Ya:α} {N n₀:Nat} {h:Heap} {gs:Array GenState} {d:Drawn} {k:Nat} {ann:Option Value} {w:World}
  (open_:(fencedOpening treeTable p w N).map (fun s=>(s.heap,s.gens,s.drawn,s.toks))=some (h,gs,d,k)) (S:OsState→SharedT) (e0:∀ os,(S os).abs=⟨h,gs,d,k,os⟩)
  (at0:(h.isNs mainGlobals&&gs.size==0,h.objs.size,h.nsMap mainGlobals "__annotations__")=(true,n₀,ann))
  (run:∀ os,(topRunG stepOk stepT (denote treeTable) p w n₀ ann N (S os) (topStub p)).map (fun s=>(ck p h s.abs,sn s.abs,Yf s.abs))=some (true,gd,Ya)) :
  ((fencedOpening treeTable p w N).bind (topFrom treeTable p w N)).map (fun s=>(sn s,Yf s))=some (gd,Ya):=by
 obtain ⟨⟨h',gs',d',k',os⟩,e,e'⟩:=Option.map_eq_some_iff.mp open_
 cases e'
 obtain ⟨s1,h1,h2⟩:=Option.map_eq_some_iff.mp (run os)
 obtain ⟨a1,a2⟩:=Prod.mk.inj at0
 obtain ⟨a2,a3⟩:=Prod.mk.inj a2
 obtain ⟨b1,b2⟩:=Prod.mk.inj h2
 have h3:=topRunG_of h1
 rewrite [e0,← a2,← a3] at h3
 rewrite [e]
 exact (congrArg (Option.map _) (topFrom_of (s:=⟨h',gs',d',k',os⟩) a1 h3 b1)).trans (congrArg some b2)
noncomputable def bt (l:List Obj):BT:=(l.foldl (fun (p:BT×Nat) o=>(p.1.ins p.2 o,p.2+1)) (BT.nil,0)).1
noncomputable def S0 (w:World) (os:OsState):SharedT:=⟨bt (boot_heap w.params).objs.toList,(boot_heap w.params).objs.size,(boot_heap w.params).life,Array.mk [],boot_drawn,boot_toks,os⟩
theorem s0 (w:World) (os:OsState):(S0 w os).abs=⟨boot_heap w.params,Array.mk [],boot_drawn,boot_toks,os⟩:=by kernel_rfl
theorem run1 (w:World) (os:OsState):(topRunG PySem.W.Fast.tw6613529449190102663 PySem.W.Fast.tw10156331382660048174 (PySem.W.Fast.tw11892475500146522536 PySem.W.Fast.tw14364793385576792824) pw w 11 (some (.ref 6)) 4634 (S0 w os) (topStub pw)).map
  (fun s=>(ck pw (boot_heap w.params) s.abs,PySem.W.Fast.tw4187177175401517315 vw [] (importedModules pw.main.body) (fun s=>xlAt vw [] s&&recOk (RowW.records rr.toRowW) s) true s.abs,hk.obs s.abs))=some (true,openGood vw [],hk.val w):=by kernel_rfl
theorem at0 (w:World):((boot_heap w.params).isNs mainGlobals&&(Array.mk ([]:List GenState)).size==0,(boot_heap w.params).objs.size,(boot_heap w.params).nsMap mainGlobals "__annotations__")=(true,11,some (.ref 6)):=by kernel_rfl
theorem run2 (w:World) (os:OsState):(topRunG stepOk stepT (denote treeTable) pw w 11 (some (.ref 6)) 4634 (S0 w os) (topStub pw)).map
  (fun s=>(ck pw (boot_heap w.params) s.abs,openSeen vw [] (importedModules pw.main.body) (fun s=>xlAt vw [] s&&recOk (RowW.records rr.toRowW) s) true s.abs,hk.obs s.abs))=some (true,openGood vw [],hk.val w):=by
 rewrite [PySem.W.Fast.te6613529449190102663,PySem.W.Fast.te10156331382660048174,PySem.W.Fast.te11892475500146522536,PySem.W.Fast.te14364793385576792824,PySem.W.Fast.te4187177175401517315]
 exact run1 w os
theorem left1:LeftO pw vw [] (fun s=>xlAt vw [] s&&recOk (RowW.records rr.toRowW) s) hk.obs hk.val 4634:=fun w=>
 left_of (boot_open (p:=pw) (N:=4634) (by kernel_rfl) rfl (fun s=>by kernel_rfl) w) (S0 w) (s0 w) (at0 w) (run2 w)
end Mine
end
section
set_option maxHeartbeats 8000000
namespace Mine
theorem ns_of_K {K:Frag} {h:Heap} {a:Addr} {m:Str→Option Value} (X:K.In h) (hn:h.Ns a m) {x:Str} {v:Value} (e:nsIn K a x=some (some v)):m x=some v:=by
 obtain ⟨o,es,ep,e1,e2,_,e4⟩:=hn
 unfold nsIn at e
 split at e
 ·rename_i c d es' n sl hl
  have e5:=X _ _ hl
  rw [e5] at e1
  cases e1
  cases e2
  rw [← e4 x]
  unfold nsFind findBy
  rw [← Array.find?_toList]
  split at e
  ·rename_i en he
   cases e
   rw [he];rfl
  ·split at e<;>cases e
 ·cases e
structure HF (w:World) (h:Heap):Prop where
 K:(KK w.params).In h
 codes:∀ c∈codes,h.CodeRec (.ref c.1) c.2.1
 nolimit:h.NoLimit
 nodig:∃ mc,h.Ns cStatics mc∧mc "sys.int_max_str_digits" = none
 blt:∃ mb,h.Ns builtinsNs mb∧∀ x:Str,x≠"__name__"→mb x=bootBuiltins x
theorem said0:PySem.W.Fast.tw9446332074065402090 PySem.Challenge.rw_nz0386_01=true:=by kernel_rfl
theorem head (H:∀ (w:World) (s:Shared) (a:Addr) (vs:List Value) (ns:List Int),HF w s.heap→s.gens = #[]→s.heap.IsList a vs.toArray→IntsAre vs ns→ns.length≤63→
  wpAny (model pw w) callerA (call (.ref 353) [.ref a]) (fun v s'=>v=.bool true∧Keeps s s') (fun _ _=>False) s):PySem.Challenge.rw_nz0386_01.Holds:=by
 w_on
 refine holds_law (l:=PySem.Challenge.rw_nz0386_01) ((congrFun PySem.W.Fast.te9446332074065402090 _).trans said0) fun said=>?_
 refine holds_open (q:=vw) (loose:=[]) (Xt:=fun s=>xlAt vw [] s&&recOk (RowW.records rr.toRowW) s) (XP:=XL vw []) (Yf:=hk.obs) (Ya:=hk.val) (YP:=hk.says) (N:=4634) left1 hk.of hk.keeps
  (fun s e=>xl_of s (Bool.and_eq_true_iff.mp e).1) XL.keeps (by rfl) (by rfl) (by rfl) (fun s e=>recFacts_of (Bool.and_eq_true_iff.mp e).2) (by rfl) (by assumption) (by decide +kernel) ⟨rfl,rfl,rfl,rfl,rfl,by decide +kernel⟩ ?hw ?hc
 case hw=>w_witness2
 intro w s₀ s₁ mg mb G Y fa o pm cd doc dV kV ho hd hcd hD hmg hg args vals as hpre hlay hrd hwl hlo
 refine Ground.open G ?_
 intro T B D TE TW
 have hfa:fa=353:=by
  have e:=ns_of_K Y.1 T.g (x:="law") (v:=.ref 353) (by with_unfolding_all rfl)
  have e':=hmg.symm.trans e
  cases e'
  rfl
 subst hfa
 have F0:HF w s₁.heap:=⟨Y.1,Y.2,T.nolimit,T.nodigits,mb,T.b,T.builtins⟩
 wrow_args hpre hlay hrd hwl hlo
 refine wpAny_mono (H w s₁ _ _ _ F0 hg (by assumption) (by assumption) (by have:=‹¬ _›;omega)) (fun v s' hv=>?_) (fun _ _ f=>f.elim)
 obtain ⟨rfl,h',tk,rfl,hk⟩:=hv
 exact GoodW.toG ⟨.inl ⟨_,.bool true,[],rfl,fun cls=>rfl,.bool true,(postW_of (X:=true) (by rfl) ((w_eq_bool (w_res rfl) w_lit).trans rfl) rfl),fun _=>⟨.nil,fun _ h=>nomatch h⟩⟩,hk,rfl,hg⟩
end Mine
end
section
namespace Mine
inductive D where
 | none | bool (b:Bool) | int (i:Int) | str (x:Str) | tup (l:List D) | lst (l:List D) | dct (l:List (Str×D)) | adr (a:Addr)
noncomputable abbrev Fz:=Addr→Option Obj
noncomputable def Le (G G':Fz):Prop:=∀ a o,G a=some o→G' a=some o
noncomputable def Inn (G:Fz) (h:Heap):Prop:=∀ a o,G a=some o→h.get? a=some o
theorem Le.rfl {G:Fz}:Le G G:=fun _ _ e=>e
theorem Le.trans {G G' G'':Fz} (x:Le G G') (y:Le G' G''):Le G G'':=fun a o e=>y a o (x a o e)
noncomputable abbrev tupO (vs:Array Value) (n:Nat):Obj:={cls:=.type "tuple",data:=.seq vs n}
noncomputable abbrev lstO (vs:Array Value) (n:Nat):Obj:={cls:=.type "list",data:=.seq vs n}
noncomputable abbrev dctO (es:Array DictEntry) (n:Nat):Obj:={cls:=.type "dict",data:=.dict es n}
inductive E1 {α:Type} (f:α→D) (d:D) (P:α→Prop):Prop
 | mk (x:α):d=f x→P x→E1 f d P
inductive E2 {α β:Type} (f:α→D) (g:β→D) (d1 d2:D) (P:α→β→Prop):Prop
 | mk (x:α) (y:β):d1=f x→d2=g y→P x y→E2 f g d1 d2 P
mutual
inductive Rep (P:Params) (G:Fz):Value→D→Prop
 | none:Rep P G .none .none
 | bool (b):Rep P G (.bool b) (.bool b)
 | int (i t):Rep P G (.int i t) (.int i)
 | str (x t):Rep P G (.str x t) (.str x)
 | tup {a vs n ds}:G a=some (tupO vs n)→RepL P G vs.toList ds→Rep P G (.ref a) (.tup ds)
 | lst {a vs n ds}:G a=some (lstO vs n)→RepL P G vs.toList ds→Rep P G (.ref a) (.lst ds)
 | dct {a es n ds}:G a=some (dctO es n)→RepE P G es.toList ds→(ds.map (·.1)).Nodup→Rep P G (.ref a) (.dct ds)
 | adr (a):Rep P G (.ref a) (.adr a)
inductive RepL (P:Params) (G:Fz):List Value→List D→Prop
 | nil:RepL P G [] []
 | cons {v vs d ds}:Rep P G v d→RepL P G vs ds→RepL P G (v::vs) (d::ds)
inductive RepE (P:Params) (G:Fz):List DictEntry→List (Str×D)→Prop
 | nil:RepE P G [] []
 | cons {x t v es d ds}:Rep P G v d→RepE P G es ds→RepE P G (⟨PyData.keyHash P x,.str x t,v⟩::es) ((x,d)::ds)
end
variable {P:Params} {G G':Fz}
theorem Rep.mono (hs:Le G G') {v:Value} {d:D} (h:Rep P G v d):Rep P G' v d:=
 Rep.rec (motive_1:=fun v d _=>Rep P G' v d) (motive_2:=fun v d _=>RepL P G' v d) (motive_3:=fun v d _=>RepE P G' v d)
  .none (fun b=>.bool b) (fun i t=>.int i t) (fun x t=>.str x t) (fun h _ r=>.tup (hs _ _ h) r) (fun h _ r=>.lst (hs _ _ h) r) (fun h _ k r=>.dct (hs _ _ h) r k) (fun a=>.adr a) .nil (fun _ _ h r=>.cons h r) .nil (fun _ _ h r=>.cons h r) h
theorem RepL.mono (hs:Le G G') {vs:List Value} {ds:List D} (h:RepL P G vs ds):RepL P G' vs ds:=
 RepL.rec (motive_1:=fun v d _=>Rep P G' v d) (motive_2:=fun v d _=>RepL P G' v d) (motive_3:=fun v d _=>RepE P G' v d)
  .none (fun b=>.bool b) (fun i t=>.int i t) (fun x t=>.str x t) (fun h _ r=>.tup (hs _ _ h) r) (fun h _ r=>.lst (hs _ _ h) r) (fun h _ k r=>.dct (hs _ _ h) r k) (fun a=>.adr a) .nil (fun _ _ h r=>.cons h r) .nil (fun _ _ h r=>.cons h r) h
theorem RepE.mono (hs:Le G G') {vs:List DictEntry} {ds:List (Str×D)} (h:RepE P G vs ds):RepE P G' vs ds:=
 RepE.rec (motive_1:=fun v d _=>Rep P G' v d) (motive_2:=fun v d _=>RepL P G' v d) (motive_3:=fun v d _=>RepE P G' v d)
  .none (fun b=>.bool b) (fun i t=>.int i t) (fun x t=>.str x t) (fun h _ r=>.tup (hs _ _ h) r) (fun h _ r=>.lst (hs _ _ h) r) (fun h _ k r=>.dct (hs _ _ h) r k) (fun a=>.adr a) .nil (fun _ _ h r=>.cons h r) .nil (fun _ _ h r=>.cons h r) h
inductive RSeq (P:Params) (G:Fz) (v:Value) (f:Array Value→Nat→Obj) (ds:List D):Prop
 | mk (a:Addr) (vs:Array Value) (n:Nat):v=.ref a→G a=some (f vs n)→RepL P G vs.toList ds→RSeq P G v f ds
inductive RDct (P:Params) (G:Fz) (v:Value) (ds:List (Str×D)):Prop
 | mk (a:Addr) (es:Array DictEntry) (n:Nat):v=.ref a→G a=some (dctO es n)→RepE P G es.toList ds→(ds.map (·.1)).Nodup→RDct P G v ds
inductive RCons (P:Params) (G:Fz) (vs:List Value) (d:D) (ds:List D):Prop
 | mk (v:Value) (vs':List Value):vs=v::vs'→Rep P G v d→RepL P G vs' ds→RCons P G vs d ds
noncomputable def RepI (P:Params) (G:Fz) (v:Value):D→Prop
 | .none=>∃ _:Unit,v=.none
 | .bool b=>∃ _:Unit,v=.bool b
 | .int i=>∃ t,v=.int i t
 | .str x=>∃ t,v=.str x t
 | .tup ds=>RSeq P G v tupO ds
 | .lst ds=>RSeq P G v lstO ds
 | .dct ds=>RDct P G v ds
 | .adr a=>∃ _:Unit,v=.ref a
theorem Rep.inv {P:Params} {G:Fz} {v:Value} {d:D} (h:Rep P G v d):RepI P G v d:=by
 cases h with
 | none=>exact ⟨(),rfl⟩
 | bool b=>exact ⟨(),rfl⟩
 | int i t=>exact ⟨t,rfl⟩
 | str x t=>exact ⟨t,rfl⟩
 | tup h r=>exact ⟨_,_,_,rfl,h,r⟩
 | lst h r=>exact ⟨_,_,_,rfl,h,r⟩
 | dct h r k=>exact ⟨_,_,_,rfl,h,r,k⟩
 | adr a=>exact ⟨(),rfl⟩
noncomputable def RepLI (P:Params) (G:Fz) (vs:List Value):List D→Prop
 | []=>∃ _:Unit,vs=[]
 | d::ds=>RCons P G vs d ds
theorem RepL.inv {P:Params} {G:Fz} {vs:List Value} {ds:List D} (h:RepL P G vs ds):RepLI P G vs ds:=by
 cases h with
 | nil=>exact ⟨(),rfl⟩
 | cons h r=>exact ⟨_,_,rfl,h,r⟩
noncomputable def RepEI (P:Params) (G:Fz) (vs:List DictEntry):List (Str×D)→Prop
 | []=>∃ _:Unit,vs=[]
 | p::ds=>∃ t v vs',vs=⟨PyData.keyHash P p.1,.str p.1 t,v⟩::vs'∧Rep P G v p.2∧RepE P G vs' ds
theorem RepE.inv {P:Params} {G:Fz} {vs:List DictEntry} {ds:List (Str×D)} (h:RepE P G vs ds):RepEI P G vs ds:=by
 cases h with
 | nil=>exact ⟨(),rfl⟩
 | cons h r=>exact ⟨_,_,_,rfl,h,r⟩
theorem RepL.length {vs:List Value} {ds:List D} (h:RepL P G vs ds):vs.length=ds.length:=by
 induction ds generalizing vs with
 | nil=>obtain ⟨_,rfl⟩:=h.inv;rfl
 | cons d ds ih=>obtain ⟨v,l,rfl,h1,h2⟩:=h.inv;rw [List.length_cons,List.length_cons,ih h2]
theorem RepL.append {P:Params} {G:Fz} {vs ws:List Value} {ds es:List D} (h:RepL P G vs ds) (k:RepL P G ws es):RepL P G (vs++ws) (ds++es):=by
 induction ds generalizing vs with
 | nil=>
  obtain ⟨_,rfl⟩:=h.inv
  exact k
 | cons d ds ih=>
  obtain ⟨v,l,rfl,h1,h2⟩:=h.inv
  exact .cons h1 (ih h2)
theorem RepL.get {vs:List Value} {ds:List D} {k:Nat} {d:D} (h:RepL P G vs ds) (e:ds[k]? = some d):∃ v,vs[k]? = some v∧Rep P G v d:=by
 induction ds generalizing vs k with
 | nil=>rw [List.getElem?_nil] at e;cases e
 | cons b ds ih=>
  obtain ⟨v,l,rfl,h1,h2⟩:=h.inv
  cases k with
  | zero=>cases e;exact ⟨_,rfl,h1⟩
  | succ k=>exact ih (k:=k) h2 e
theorem RepL.get' {vs:List Value} {ds:List D} {k:Nat} {v:Value} (h:RepL P G vs ds) (e:vs[k]? = some v):∃ d,ds[k]? = some d∧Rep P G v d:=by
 induction ds generalizing vs k with
 | nil=>obtain ⟨_,rfl⟩:=h.inv;rw [List.getElem?_nil] at e;cases e
 | cons b ds ih=>
  obtain ⟨v,l,rfl,h1,h2⟩:=h.inv
  cases k with
  | zero=>cases e;exact ⟨_,rfl,h1⟩
  | succ k=>exact ih (k:=k) h2 e
theorem RepL.take {vs:List Value} {ds:List D} (k:Nat) (h:RepL P G vs ds):RepL P G (vs.take k) (ds.take k):=by
 induction ds generalizing vs k with
 | nil=>obtain ⟨_,rfl⟩:=h.inv;rw [List.take_nil,List.take_nil];exact .nil
 | cons b ds ih=>
  obtain ⟨v,l,rfl,h1,h2⟩:=h.inv
  cases k with
  | zero=>exact .nil
  | succ k=>exact .cons h1 (ih k h2)
theorem RepL.drop {vs:List Value} {ds:List D} (k:Nat) (h:RepL P G vs ds):RepL P G (vs.drop k) (ds.drop k):=by
 induction ds generalizing vs k with
 | nil=>obtain ⟨_,rfl⟩:=h.inv;rw [List.drop_nil,List.drop_nil];exact .nil
 | cons b ds ih=>
  obtain ⟨v,l,rfl,h1,h2⟩:=h.inv
  cases k with
  | zero=>exact .cons h1 h2
  | succ k=>exact ih k h2
theorem RepL.reverse {vs:List Value} {ds:List D} (h:RepL P G vs ds):RepL P G vs.reverse ds.reverse:=by
 induction ds generalizing vs with
 | nil=>obtain ⟨_,rfl⟩:=h.inv;exact .nil
 | cons b ds ih=>
  obtain ⟨v,l,rfl,h1,h2⟩:=h.inv
  rw [List.reverse_cons,List.reverse_cons];exact RepL.append (ih h2) (.cons h1 .nil)
theorem RepL.eraseIdx {vs:List Value} {ds:List D} (k:Nat) (h:RepL P G vs ds):RepL P G (vs.eraseIdx k) (ds.eraseIdx k):=by
 induction ds generalizing vs k with
 | nil=>obtain ⟨_,rfl⟩:=h.inv;exact .nil
 | cons b ds ih=>
  obtain ⟨v,l,rfl,h1,h2⟩:=h.inv
  cases k with
  | zero=>exact h2
  | succ k=>exact .cons h1 (ih k h2)
structure Step (G:Fz) (s:Shared) (M:List Addr) (G':Fz) (s':Shared):Prop where
 same:∃ h tk,s' = {s with heap:=h,toks:=tk}
 le:Le G G'
 inn:Inn G' s'.heap
 new:∀ a o,G' a=some o→G a=some o∨s.heap.get? a=none
 keep:∀ a o,a∉M→s.heap.get? a=some o→s'.heap.get? a=some o
 dom:∀ a,s.heap.get? a≠none→s'.heap.get? a≠none
theorem Step.refl {s:Shared} {M:List Addr} (i:Inn G s.heap):Step G s M G s:=
 ⟨⟨_,_,rfl⟩,Le.rfl,i,fun _ _ e=>.inl e,fun _ _ _ e=>e,fun _ e=>e⟩
theorem Step.trans {G G1 G2:Fz} {s s1 s2:Shared} {M M':List Addr} (x:Step G s M G1 s1) (y:Step G1 s1 M' G2 s2) (hM:∀ a∈M',a∈M∨s.heap.get? a=none):Step G s M G2 s2 where
 same:=by obtain ⟨h,tk,rfl⟩:=x.same;obtain ⟨h',tk',rfl⟩:=y.same;exact ⟨h',tk',rfl⟩
 le:=x.le.trans y.le
 inn:=y.inn
 new:=fun a o e=>(y.new a o e).elim (fun e1=>x.new a o e1) fun e1=>.inr (Classical.byContradiction fun hn=>x.dom a hn e1)
 keep:=fun a o ha e=>y.keep a o (fun hm=>(hM a hm).elim ha fun hn=>by rw [hn] at e;cases e) (x.keep a o ha e)
 dom:=fun a e=>y.dom a (x.dom a e)
theorem Step.of_keeps {s s':Shared} {M:List Addr} (i:Inn G s.heap) (k:Keeps s s'):Step G s M G s':=by
 obtain ⟨h,tk,rfl,hk⟩:=k
 exact ⟨⟨h,tk,rfl⟩,Le.rfl,fun a o e=>hk _ _ (i a o e),fun _ _ e=>.inl e,fun a o _ e=>hk a o e,fun a e he=>by
  cases hq:s.heap.get? a with
  | none=>exact e hq
  | some o=>rw [hk a o hq] at he;cases he⟩
noncomputable def Fz.put (G:Fz) (a:Addr) (o:Obj):Fz:=fun b=>if b=a then some o else G b
theorem Fz.put_self {a:Addr} {o:Obj}:G.put a o a=some o:=by simp [Fz.put]
theorem Fz.put_le {a:Addr} {o:Obj} (h:∀ o',G a=some o'→o'=o):Le G (G.put a o):=fun b o' e=>by
 unfold Fz.put
 split
 ·rename_i q;subst q;rw [h _ e]
 ·exact e
theorem Step.freeze {s s':Shared} {M:List Addr} (x:Step G s M G' s') {a:Addr} {o:Obj} (hn:s.heap.get? a=none) (ho:s'.heap.get? a=some o):Step G s M (G'.put a o) s' where
 same:=x.same
 le:=x.le.trans (Fz.put_le fun o' e=>by have:=x.inn a o' e;rw [ho] at this;cases this;rfl)
 inn:=fun b o' e=>by
  unfold Fz.put at e
  split at e
  ·rename_i q;subst q;cases e;exact ho
  ·exact x.inn b o' e
 new:=fun b o' e=>by
  unfold Fz.put at e
  split at e
  ·rename_i q;subst q;exact .inr hn
  ·exact x.new b o' e
 keep:=x.keep
 dom:=x.dom
theorem Step.le_put {s s':Shared} {M:List Addr} (x:Step G s M G' s') {a:Addr} {o:Obj} (ho:s'.heap.get? a=some o):Le G' (G'.put a o):=
 Fz.put_le fun o' e=>by have:=x.inn a o' e;rw [ho] at this;cases this;rfl
structure Kd where
 p:Value→Fz→Heap→Prop
 fp:List Addr
 ow:List Addr
 st:∀ {v:Value} {G G':Fz} {h h':Heap},Le G G'→(∀ a∈fp,∀ o,h.get? a=some o→h'.get? a=some o)→p v G h→p v G' h'
noncomputable def dat (P:Params) (d:D):Kd:=⟨fun v G _=>Rep P G v d,[],[],fun hl _ x=>x.mono hl⟩
noncomputable def own (P:Params) (a:Addr) (ds:List D):Kd:=
 ⟨fun v G h=>v=.ref a∧∃ vs n,h.get? a=some (lstO vs n)∧RepL P G vs.toList ds,[a],[a],
  fun hl he ⟨e,vs,n,x,y⟩=>⟨e,vs,n,he a (List.mem_singleton.mpr rfl) _ x,y.mono hl⟩⟩
noncomputable def Kd.ro (K:Kd):Kd:={K with ow:=[]}
noncomputable def VarAt (env:Env) (h:Heap) (x:Str) (v:Value):Prop:=
 (env.kindOf x=some .local∧∃ m,h.Ns env.locals m∧m x=some v)∨
 ((env.kindOf x=some .cell∨env.kindOf x=some .free)∧∃ c,env.cells.lookup x=some c∧h.IsCell c (some v))
theorem VarAt.keeps {env:Env} {h h':Heap} {x:Str} {v:Value} (q:VarAt env h x v) (hL:∀ o,h.get? env.locals=some o→h'.get? env.locals=some o)
  (hC:∀ y c,env.cells.lookup y=some c→∀ o,h.get? c=some o→h'.get? c=some o):VarAt env h' x v:=by
 rcases q with ⟨k,m,⟨o,es,ep,e,r⟩,hm⟩ | ⟨k,c,hc,o,ho,hd⟩
 ·exact .inl ⟨k,m,⟨o,es,ep,hL _ e,r⟩,hm⟩
 ·exact .inr ⟨k,c,hc,o,hC _ _ hc _ ho,hd⟩
noncomputable def Bs (w:World) (G:Fz):Prop:=∀ h,Inn G h→HF w h
theorem Bs.mono {w:World} (b:Bs w G) (l:Le G G'):Bs w G':=fun h i=>b h fun a o e=>i a o (l a o e)
noncomputable abbrev Rho:=List (Option Str×Kd)
noncomputable def Holds (env:Env) (G:Fz) (h:Heap) (q:Option Str×Kd):Prop:=match q.1 with
 | some x=>∃ v,VarAt env h x v∧q.2.p v G h
 | none=>q.2.p .none G h
noncomputable def Sep (p q:Option Str×Kd):Prop:=(p.1=none∨p.1≠q.1)∧(∀ a∈p.2.ow,a∉q.2.fp)∧(∀ a∈q.2.ow,a∉p.2.fp)
structure St (w:World) (env:Env) (G₀:Fz) (s₀:Shared) (M:List Addr) (ρ:Rho) (G:Fz) (s:Shared):Prop where
 step:Step G₀ s₀ M G s
 base:Bs w G₀
 fr:∃ m,s.heap.Ns env.locals m
 newL:s₀.heap.get? env.locals=none
 GL:G env.locals=none
 cell:∀ x c,env.cells.lookup x=some c→(∃ v,s.heap.IsCell c v)∧G c=none
 apart:env.cells.Pairwise fun x y=>x.2≠y.2
 cnew:env.func.isSome=true→∀ x c,env.cells.lookup x=some c→s₀.heap.get? c=none
 vars:∀ q∈ρ,Holds env G s.heap q
 fps:∀ q∈ρ,∀ a∈q.2.fp,s.heap.get? a≠none∧a≠env.locals∧∀ y c,env.cells.lookup y=some c→a≠c
 ows:∀ q∈ρ,∀ a∈q.2.ow,a∈q.2.fp∧G a=none∧(a∈M∨s₀.heap.get? a=none)
 sep:ρ.Pairwise Sep
variable {w:World} {env:Env} {G₀:Fz} {s₀:Shared} {M:List Addr} {ρ:Rho}
theorem St.bs {s:Shared} (x:St w env G₀ s₀ M ρ G s):HF w s.heap:=x.base.mono x.step.le _ x.step.inn
theorem St.HFG {s:Shared} (x:St w env G₀ s₀ M ρ G s):Bs w G:=x.base.mono x.step.le
theorem St.frL {s:Shared} (x:St w env G₀ s₀ M ρ G s):s.heap.get? env.locals≠none:=by obtain ⟨m,o',es,ep,e,_⟩:=x.fr;rw [e];exact fun h=>nomatch h
theorem St.frC {s:Shared} (x:St w env G₀ s₀ M ρ G s) {y:Str} {c:Addr} (hm:env.cells.lookup y=some c):s.heap.get? c≠none:=by obtain ⟨⟨v,o',e,_⟩,_⟩:=x.cell y c hm;rw [e];exact fun h=>nomatch h
theorem Holds.next {q:Option Str×Kd} {h h':Heap} (x:Holds env G h q) (l:Le G G') (hL:∀ o,h.get? env.locals=some o→h'.get? env.locals=some o)
  (hC:∀ y c,env.cells.lookup y=some c→∀ o,h.get? c=some o→h'.get? c=some o) (hf:∀ a∈q.2.fp,∀ o,h.get? a=some o→h'.get? a=some o):Holds env G' h' q:=by
 obtain ⟨y,K⟩:=q
 cases y with
 | none=>exact K.st l hf x
 | some y=>obtain ⟨v,a,b⟩:=x;exact ⟨v,a.keeps hL hC,K.st l hf b⟩
theorem Step.out {s s':Shared} {N:List Addr} (y:Step G s N G' s') {a:Addr} (h1:G a=none) (h2:s.heap.get? a≠none):G' a=none:=by
 cases q:G' a with
 | none=>rfl
 | some o=>exact ((y.new _ _ q).elim (fun e=>by rw [h1] at e;cases e) fun e=>(h2 e).elim)
theorem St.turn {s s':Shared} {N:List Addr} (x:St w env G₀ s₀ M ρ G s) (y:Step G s N G' s') (hN:∀ a∈N,a∈M∨s₀.heap.get? a=none)
  (hL:env.locals∉N) (hC:∀ y c,env.cells.lookup y=some c→c∉N) (hv:∀ q∈ρ,(∃ a∈N,a∈q.2.fp)→Holds env G' s'.heap q):St w env G₀ s₀ M ρ G' s' where
 step:=x.step.trans y hN
 base:=x.base
 fr:=by obtain ⟨m,o,es,ep,e,r⟩:=x.fr;exact ⟨m,o,es,ep,y.keep _ _ hL e,r⟩
 newL:=x.newL
 GL:=y.out x.GL x.frL
 cell:=fun n c hm=>by
  obtain ⟨⟨v,o,ho,hd⟩,hg⟩:=x.cell n c hm
  exact ⟨⟨v,o,y.keep _ _ (hC _ _ hm) ho,hd⟩,y.out hg (x.frC hm)⟩
 apart:=x.apart
 cnew:=x.cnew
 vars:=fun q hq=>by
  by_cases h:∃ a∈N,a∈q.2.fp
  ·exact hv q hq h
  ·exact (x.vars q hq).next y.le (fun o e=>y.keep _ _ hL e) (fun n c hm o e=>y.keep _ _ (hC _ _ hm) e) fun a ha o e=>y.keep _ _ (fun hn=>h ⟨a,hn,ha⟩) e
 fps:=fun q hq a ha=>let ⟨h2,h3,h4⟩:=x.fps q hq a ha;⟨y.dom a h2,h3,h4⟩
 ows:=fun q hq a ha=>let ⟨h1,h2,h3⟩:=x.ows q hq a ha;⟨h1,y.out h2 (x.fps q hq a h1).1,h3⟩
 sep:=x.sep
theorem St.pure {s s':Shared} (x:St w env G₀ s₀ M ρ G s) (y:Step G s [] G' s'):St w env G₀ s₀ M ρ G' s':=
 x.turn y (fun _ h=>nomatch h) (fun h=>nomatch h) (fun _ _ _ h=>nomatch h) fun _ _ ⟨_,h,_⟩=>nomatch h
theorem St.toks {s:Shared} (x:St w env G₀ s₀ M ρ G s) (t:Nat):St w env G₀ s₀ M ρ G {s with toks:=t}:=
 x.pure (Step.of_keeps x.step.inn ⟨s.heap,t,rfl,fun _ _ e=>e⟩)
theorem St.sub {s:Shared} (x:St w env G₀ s₀ M ρ G s) {ρ':Rho} (h:ρ'.Sublist ρ):St w env G₀ s₀ M ρ' G s:=
 {x with vars:=fun q hq=>x.vars q (h.subset hq),fps:=fun q hq=>x.fps q (h.subset hq),ows:=fun q hq=>x.ows q (h.subset hq),sep:=x.sep.sublist h}
end Mine
end
section
namespace Mine
noncomputable def AOK (n:Nat) (A:Around):Prop:=A.depth+n≤900∧A.units+8 * n≤9000∧A.handled=none
noncomputable def Op (w:World) (n:Nat) (N:List Addr) (G:Fz) (s:Shared) (t:Sem Value) (K:Value→Fz→Shared→Prop):Prop:=
 ∀ (A:Around) (Q:Value→Shared→Prop) (E:Value→Shared→Prop),AOK n A→(∀ v G' s',Step G s N G' s'→K v G' s'→Q v s')→wpAny (model pw w) A t Q E s
noncomputable def EvK (w:World) (env:Env) (n:Nat) (N:List Addr) (ρ:Rho) (e:PySem.Expr) (K:Shared→Value→Fz→Shared→Prop):Prop:=
 ∀ (A:Around) (G₀:Fz) (s₀:Shared) (M:List Addr) (G:Fz) (s:Shared) (Q:Value→Shared→Prop) (E:Value→Shared→Prop),AOK n A→(∀ a∈N,a∈M)→St w env G₀ s₀ M ρ G s→
  (∀ v G' s',Step G s N G' s'→St w env G₀ s₀ M ρ G' s'→K s v G' s'→Q v s')→wpAny (model pw w) A (eval e env) Q E s
inductive KL (w:World) (P:List D→Prop) (s:Shared) (v:Value) (G':Fz) (s':Shared):Prop
 | mk (a:Addr) (vs:Array Value) (n:Nat) (ds:List D):v=.ref a→s.heap.get? a=none→G' a=none→s'.heap.get? a=some (lstO vs n)→RepL w.params G' vs.toList ds→P ds→KL w P s v G' s'
inductive KS (w:World) (P:List D→Prop) (v:Value) (G':Fz) (s':Shared):Prop
 | mk (a:Addr) (vs:Array Value) (n:Nat) (ds:List D):v=.ref a→s'.heap.get? a=some (lstO vs n)→RepL w.params G' vs.toList ds→P ds→KS w P v G' s'
inductive KD (w:World) (P:D→Prop) (v:Value) (G':Fz) (s:Shared):Prop
 | mk (d:D):Rep w.params G' v d→P d→KD w P v G' s
noncomputable abbrev Ev (w:World) (env:Env) (n:Nat) (N:List Addr) (ρ:Rho) (e:PySem.Expr) (P:D→Prop):=EvK w env n N ρ e (fun _=>KD w P)
noncomputable abbrev EvL (w:World) (env:Env) (n:Nat) (N:List Addr) (ρ:Rho) (e:PySem.Expr) (P:List D→Prop):=EvK w env n N ρ e (KL w P)
noncomputable abbrev EvS (w:World) (env:Env) (n:Nat) (N:List Addr) (ρ:Rho) (e:PySem.Expr) (P:List D→Prop):=EvK w env n N ρ e (fun _=>KS w P)
noncomputable abbrev EvV (w:World) (env:Env) (n:Nat) (N:List Addr) (ρ:Rho) (e:PySem.Expr) (v₀:Value):=EvK w env n N ρ e (fun _ v _ _=>v=v₀)
variable {w:World} {env:Env} {n:Nat} {N:List Addr} {ρ:Rho}
theorem Step.mono {G G':Fz} {s s':Shared} {N N':List Addr} (x:Step G s N G' s') (h:∀ a∈N,a∈N'):Step G s N' G' s':=
 {x with keep:=fun a o ha e=>x.keep a o (fun q=>ha (h a q)) e}
theorem Step.tk {G:Fz} {s:Shared} (i:Inn G s.heap) (t:Nat):Step G s N G {s with toks:=t}:=Step.of_keeps i ⟨s.heap,t,rfl,fun _ _ e=>e⟩
theorem Step.push {G:Fz} {s:Shared} (i:Inn G s.heap) (o:Obj) (t:Nat):Step G s N G {s with heap:=s.heap.push o,toks:=t}:=
 Step.of_keeps i ⟨_,_,rfl,fun _ _ e=>Heap.get?_push_of_some _ e⟩
theorem fresh_size (h:Heap):h.get? h.objs.size=none:=Heap.get?_none_of_le (Nat.le_refl _)
theorem EvK.mono {e:PySem.Expr} {K K':Shared→Value→Fz→Shared→Prop} (x:EvK w env n N ρ e K) (h:∀ s v G' s',Inn G' s'.heap→K s v G' s'→K' s v G' s'):EvK w env n N ρ e K':=
 fun A G₀ s₀ M G s Q E a b c k=>x A G₀ s₀ M G s Q E a b c fun v G' s' y z q=>k v G' s' y z (h _ _ _ _ y.inn q)
theorem St.frz {G₀ G G':Fz} {s₀ s s':Shared} {M:List Addr} {a:Addr} {o:Obj} (x:St w env G₀ s₀ M ρ G s) (z:St w env G₀ s₀ M ρ G' s') (hn:s.heap.get? a=none) (ho:s'.heap.get? a=some o) :
  St w env G₀ s₀ M ρ (G'.put a o) s':=by
 have ne:∀ b,s.heap.get? b≠none→b≠a:=fun b hb e=>hb (e▸hn)
 have out:∀ b,b≠a→G' b=none→G'.put a o b=none:=fun b hb e=>by unfold Fz.put;rw [if_neg hb];exact e
 exact {
  step:=z.step.freeze (Classical.byContradiction fun q=>x.step.dom a q hn) ho
  base:=z.base
  fr:=z.fr
  newL:=z.newL
  GL:=out _ (ne _ x.frL) z.GL
  cell:=fun y c hm=>⟨(z.cell y c hm).1,out _ (ne _ (x.frC hm)) (z.cell y c hm).2⟩
  apart:=z.apart
  cnew:=z.cnew
  vars:=fun q hq=>(z.vars q hq).next (z.step.le_put ho) (fun _ e=>e) (fun _ _ _ _ e=>e) fun _ _ _ e=>e
  fps:=z.fps
  ows:=fun q hq b hb=>let ⟨h1,h2,h3⟩:=z.ows q hq b hb;⟨h1,out _ (ne _ (x.fps q hq b h1).1) h2,h3⟩
  sep:=z.sep}
theorem EvL.ev {e:PySem.Expr} {P:List D→Prop} (x:EvL w env n N ρ e P):Ev w env n N ρ e (fun d=>∃ l,d=.lst l∧P l):=
 fun A G₀ s₀ M G s Q E a b c k=>x A G₀ s₀ M G s Q E a b c fun v G' s' y z q=>by
  obtain ⟨ad,vs,m,ds,rfl,h1,h2,h3,h4,h5⟩:=q
  exact k _ _ _ (y.freeze h1 h3) (c.frz z h1 h3) ⟨_,.lst Fz.put_self (h4.mono (y.le_put h3)),ds,rfl,h5⟩
theorem EvL.evs {e:PySem.Expr} {P:List D→Prop} (x:EvL w env n N ρ e P):EvS w env n N ρ e P:=
 x.mono fun _ _ _ _ _ ⟨a,vs,m,ds,h1,_,_,h4,h5,h6⟩=>⟨a,vs,m,ds,h1,h4,h5,h6⟩
end Mine
end
section
namespace Mine
variable {w:World} {env:Env} {n:Nat} {N:List Addr} {ρ:Rho}
theorem KD.of {P:D→Prop} {v:Value} {G:Fz} {s:Shared} {d:D} (r:Rep w.params G v d) (p:P d):KD w P v G s:=⟨d,r,p⟩
theorem ev_int {i:Int} {k pos}:Ev w env n N ρ (.Constant (.int i) k pos) (fun d=>d=.int i):=fun A G₀ s₀ M G s Q E _ _ c k'=>
 wpAny_Constant_int (k' _ _ _ (Step.tk c.step.inn _) (c.toks _) (.of (.int _ _) rfl))
theorem ev_str {x:Str} {k pos}:Ev w env n N ρ (.Constant (.str x) k pos) (fun d=>d=.str x):=fun A G₀ s₀ M G s Q E _ _ c k'=>by
 show wpAny _ _ (mkText x) _ _ _
 exact wpAny_mkText (k' _ _ _ (Step.tk c.step.inn _) (c.toks _) (.of (.str _ _) rfl))
theorem ev_bool {b:Bool} {k pos}:Ev w env n N ρ (.Constant (.bool b) k pos) (fun d=>d=.bool b):=fun A G₀ s₀ M G s Q E _ _ c k'=>
 wpAny_pure (k' _ _ _ (Step.refl c.step.inn) c (.of (.bool _) rfl))
theorem ev_none {k pos}:Ev w env n N ρ (.Constant .none k pos) (fun d=>d=.none):=fun A G₀ s₀ M G s Q E _ _ c k'=>
 wpAny_pure (k' _ _ _ (Step.refl c.step.inn) c (.of .none rfl))
theorem evk_name {x:Str} {pos:Pos} {K:Kd} (h:(some x,K)∈ρ) (hk:env.scope.kind=.function) (hd:(x==("__debug__" : Str))=false:=by decide) (hc:(x==("__classdict__" : Str))=false:=by decide) :
  EvK w env n N ρ (.Name x pos) (fun _ v G' s'=>K.p v G' s'.heap):=fun A G₀ s₀ M G s Q E _ _ c k'=>by
 obtain ⟨v,hv,hp⟩:=c.vars _ h
 have q:=k' v _ _ (Step.refl c.step.inn) c hp
 rcases hv with ⟨hl,m,hn,hm⟩ | ⟨hl | hl,ad,ha,hcell⟩
 ·exact wpAny_Name (wpAny_loadName_local hk hl hn hm q) hd
 ·exact wpAny_Name (wpAny_loadName_cell hk hl ha hcell q) hd
 ·exact wpAny_Name (wpAny_loadName_free hk hl ha hcell q hc) hd
theorem ev_name {x:Str} {pos:Pos} {d:D} (h:(some x,dat w.params d)∈ρ) (hk:env.scope.kind=.function) (hd:(x==("__debug__" : Str))=false:=by decide) (hc:(x==("__classdict__" : Str))=false:=by decide) :
  Ev w env n N ρ (.Name x pos) (fun d'=>d'=d):=(evk_name h hk hd hc).mono fun _ _ _ _ _ q=>⟨d,q,rfl⟩
theorem evs_own {x:Str} {pos:Pos} {a:Addr} {ds:List D} (h:(some x,own w.params a ds)∈ρ) (hk:env.scope.kind=.function) (hd:(x==("__debug__" : Str))=false:=by decide) (hc:(x==("__classdict__" : Str))=false:=by decide) :
  EvS w env n N ρ (.Name x pos) (fun l=>l=ds):=(evk_name h hk hd hc).mono fun _ _ _ _ _ ⟨e,vs,m,h1,h2⟩=>⟨a,vs,m,ds,e,h1,h2,rfl⟩
noncomputable def keysStr (K:Frag) (a:Addr):Bool:=match K.lookup a with
 | some ⟨_,_,.dict es _,_⟩=>es.toList.all fun e=>match e.key with | .str _ _=>true | _=>false
 | _=>false
theorem ns_made {K:Frag} {h:Heap} (X:K.In h) {a:Addr} (e:keysStr K a=true):∃ m,h.Ns a m∧∀ x r,nsIn K a x=some r→m x=r:=by
 unfold keysStr at e
 split at e
 ·rename_i c d es k sl hl
  have hn:h.Ns a (fun y=>nsFind es y):=⟨_,es,k,X _ _ hl,rfl,(fun en hen=>by
   have:=List.all_eq_true.mp e en (Array.mem_toList_iff.mpr hen)
   cases hk:en.key<;>rw [hk] at this<;>first | exact ⟨_,_,rfl⟩ | cases this),fun _=>rfl⟩
  refine ⟨_,hn,fun x r hr=>?_⟩
  cases r with
  | some v=>exact ns_of_K X hn hr
  | none=>
   unfold nsIn at hr
   rw [hl] at hr
   dsimp only at hr
   show nsFind es x=none
   unfold nsFind findBy
   rw [← Array.find?_toList]
   split at hr
   ·cases hr
   ·rename_i hf;rw [hf];rfl
 ·cases e
theorem keys3 (P:Params):keysStr (KK P) 3=true:=by rfl
theorem evv_glob {x:Str} {pos:Pos} {v:Value} (hx:env.kindOf x=some .globalImplicit) (hv:nsIn (KK w.params) 3 x=some (some v)) (hk:env.scope.kind=.function) (hg:env.globals=mainGlobals)
  (hd:(x==("__debug__" : Str))=false:=by decide):EvV w env n N ρ (.Name x pos) v:=fun A G₀ s₀ M G s Q E _ _ c k'=>by
 obtain ⟨m,hn,hm⟩:=ns_made c.bs.K (keys3 w.params)
 exact Calls.Name_function_global hk hx (Calls.loadGlobal_global (hg▸hn) (hm _ _ hv) (k' _ _ _ (Step.refl c.step.inn) c rfl)) hd
theorem evv_blt {x:Str} {pos:Pos} {v:Value} (hx:env.kindOf x=some .globalImplicit) (hv:nsIn (KK w.params) 3 x=some none) (hb:bootBuiltins x=some v) (hk:env.scope.kind=.function) (hg:env.globals=mainGlobals) (hbn:env.builtins=builtinsNs)
  (hd:(x==("__debug__" : Str))=false:=by decide) (hm:x≠"__name__":=by decide):EvV w env n N ρ (.Name x pos) v:=fun A G₀ s₀ M G s Q E _ _ c k'=>by
 obtain ⟨m,hn,hm'⟩:=ns_made c.bs.K (keys3 w.params)
 obtain ⟨mb,h1,h2⟩:=c.bs.blt
 exact Calls.Name_function_global hk hx (Calls.loadGlobal_builtin (hg▸hn) (hm' _ _ hv) (hbn▸h1) ((h2 x hm).trans hb) (k' _ _ _ (Step.refl c.step.inn) c rfl)) hd
theorem KL.early {P:List D→Prop} {s0 s s':Shared} {v:Value} {G':Fz} (x:KL w P s v G' s') (h:∀ a,s0.heap.get? a≠none→s.heap.get? a≠none):KL w P s0 v G' s':=by
 obtain ⟨a,vs,m,ds,h1,h2,h3,h4,h5,h6⟩:=x
 exact ⟨a,vs,m,ds,h1,Classical.byContradiction fun q=>h a q h2,h3,h4,h5,h6⟩
theorem ev_binG {op l r pos} {P1 P2:D→Prop} {K:Shared→Value→Fz→Shared→Prop} (hl:Ev w env n N ρ l P1) (hr:Ev w env n N ρ r P2)
  (he:∀ s0 s v G' s',K s v G' s'→(∀ a,s0.heap.get? a≠none→s.heap.get? a≠none)→K s0 v G' s')
  (hop:∀ G s v1 v2 d1 d2,Inn G s.heap→Bs w G→P1 d1→P2 d2→Rep w.params G v1 d1→Rep w.params G v2 d2→Op w n [] G s (binaryOp op v1 v2) (K s)) :
  EvK w env n N ρ (.BinOp l op r pos) K:=fun A G₀ s₀ M G s Q E a b c k'=>
 wpAny_BinOp (hl A G₀ s₀ M G s _ E a b c fun v1 G1 s1 y1 z1 ⟨d1,r1,p1⟩=>hr A G₀ s₀ M G1 s1 _ E a b z1 fun v2 G2 s2 y2 z2 ⟨d2,r2,p2⟩=>
  have y:=y1.trans y2 fun q hq=>.inl hq
  hop G2 s2 v1 v2 d1 d2 z2.step.inn z2.HFG p1 p2 (r1.mono y2.le) r2 A _ _ a fun v G3 s3 y3 q=>
   k' v G3 s3 (y.trans y3 fun _ h=>nomatch h) (z2.pure y3) (he _ _ _ _ _ q fun ad h=>y.dom ad h))
theorem ev_bin {op l r pos} {P1 P2 P:D→Prop} (hl:Ev w env n N ρ l P1) (hr:Ev w env n N ρ r P2)
  (hop:∀ G s v1 v2 d1 d2,Inn G s.heap→Bs w G→P1 d1→P2 d2→Rep w.params G v1 d1→Rep w.params G v2 d2→Op w n [] G s (binaryOp op v1 v2) (KD w P)) :
  Ev w env n N ρ (.BinOp l op r pos) P:=ev_binG hl hr (fun _ _ _ _ _ x _=>x) hop
theorem Op.tok {G:Fz} {s:Shared} {t:Sem Value} {v:Value} {d:D} {P:D→Prop} (i:Inn G s.heap) (r:Rep w.params G v d) (p:P d) (tk:Nat)
  (h:∀ A Q E,AOK n A→Q v {s with toks:=tk}→wpAny (model pw w) A t Q E s):Op w n [] G s t (KD w P):=
 fun A Q E a k=>h A Q E a (k v G _ (Step.tk i tk) ⟨d,r,p⟩)
theorem ev_add_int {l r pos} {P1 P2 P:D→Prop} (hl:Ev w env n N ρ l P1) (hr:Ev w env n N ρ r P2) (h:∀ d1 d2,P1 d1→P2 d2→E2 .int .int d1 d2 fun x y=>P (.int (x+y))):Ev w env n N ρ (.BinOp l .Add r pos) P:=
 ev_bin hl hr fun G s v1 v2 d1 d2 i _ p1 p2 r1 r2=>by
  obtain ⟨x,y,rfl,rfl,hp⟩:=h _ _ p1 p2
  obtain ⟨_,rfl⟩:=r1.inv;obtain ⟨_,rfl⟩:=r2.inv
  exact .tok i (.int _ s.toks) hp _ fun A Q E _ q=>PyProof.Rows.add_int q
theorem ev_mul_int {l r pos} {P1 P2 P:D→Prop} (hl:Ev w env n N ρ l P1) (hr:Ev w env n N ρ r P2) (h:∀ d1 d2,P1 d1→P2 d2→E2 .int .int d1 d2 fun x y=>(x.natAbs < 2 ^ 63∧y.natAbs < 2 ^ 63)∧P (.int (x * y))):Ev w env n N ρ (.BinOp l .Mult r pos) P:=
 ev_bin hl hr fun G s v1 v2 d1 d2 i _ p1 p2 r1 r2=>by
  obtain ⟨x,y,rfl,rfl,hb,hp⟩:=h _ _ p1 p2
  obtain ⟨_,rfl⟩:=r1.inv;obtain ⟨_,rfl⟩:=r2.inv
  exact .tok i (.int _ s.toks) hp _ fun A Q E _ q=>PyProof.Rows.mul_int q (PySem.IntMulOk.of_left (PySem.intBits_le_64 (by omega) (by omega)))
theorem ev_mod_int {l r pos} {P1 P2 P:D→Prop} (hl:Ev w env n N ρ l P1) (hr:Ev w env n N ρ r P2) (h:∀ d1 d2,P1 d1→P2 d2→E2 .int .int d1 d2 fun x y=>y≠0∧P (.int (x.fmod y))):Ev w env n N ρ (.BinOp l .Mod r pos) P:=
 ev_bin hl hr fun G s v1 v2 d1 d2 i _ p1 p2 r1 r2=>by
  obtain ⟨x,y,rfl,rfl,hb,hp⟩:=h _ _ p1 p2
  obtain ⟨_,rfl⟩:=r1.inv;obtain ⟨_,rfl⟩:=r2.inv
  exact .tok i (.int _ s.toks) hp _ fun A Q E _ q=>PyProof.Rows.mod_int' hb q
theorem ev_add_str {l r pos} {P1 P2 P:D→Prop} (hl:Ev w env n N ρ l P1) (hr:Ev w env n N ρ r P2) (h:∀ d1 d2,P1 d1→P2 d2→E2 .str .str d1 d2 fun x y=>x.length+y.length≤sizeLine∧P (.str (x++y))):Ev w env n N ρ (.BinOp l .Add r pos) P:=
 ev_bin hl hr fun G s v1 v2 d1 d2 i _ p1 p2 r1 r2=>by
  obtain ⟨x,y,rfl,rfl,hb,hp⟩:=h _ _ p1 p2
  obtain ⟨_,rfl⟩:=r1.inv;obtain ⟨_,rfl⟩:=r2.inv
  exact fun A Q E _ k=>PyProof.Rows.add_str (fun t' tk=>k _ _ _ (Step.tk i tk) ⟨_,.str _ _,hp⟩) hb
noncomputable def Tr (w:World) (env:Env) (n:Nat) (N:List Addr) (ρ:Rho) (e:PySem.Expr) (P:Bool→Prop):Prop:=
 ∀ (A:Around) (G₀:Fz) (s₀:Shared) (M:List Addr) (G:Fz) (s:Shared) (Q:Bool→Shared→Prop) (E:Value→Shared→Prop),AOK n A→(∀ a∈N,a∈M)→St w env G₀ s₀ M ρ G s→
  (∀ b G' s',Step G s N G' s'→St w env G₀ s₀ M ρ G' s'→P b→Q b s')→wpAny (model pw w) A (isTrue e env (eval e env)) Q E s
theorem ev_cmp {op l r pos} {K1 K2:Value→Fz→Shared→Prop} {P:D→Prop} (hl:EvK w env n N ρ l (fun _=>K1)) (hr:EvK w env n N ρ r (fun _=>K2))
  (h1:∀ v G s G' s',K1 v G s→Step G s N G' s'→K1 v G' s')
  (hop:∀ G s v1 v2,Inn G s.heap→Bs w G→K1 v1 G s→K2 v2 G s→Op w n [] G s (compareOp op v1 v2) (KD w P)) (hm:behindInMarks op r=false:=by with_unfolding_all rfl) :
  Ev w env n N ρ (.Compare l [op] [r] pos) P:=fun A G₀ s₀ M G s Q E a b c k'=>
 wpAny_Compare1 (hl A G₀ s₀ M G s _ E a b c fun v1 G1 s1 y1 z1 q1=>hr A G₀ s₀ M G1 s1 _ E a b z1 fun v2 G2 s2 y2 z2 q2=>
  hop G2 s2 v1 v2 z2.step.inn z2.HFG (h1 _ _ _ _ _ q1 y2) q2 A _ _ a fun v G3 s3 y3 q=>
   k' v G3 s3 ((y1.trans y2 fun q hq=>.inl hq).trans y3 fun _ h=>nomatch h) (z2.pure y3) q) hm
theorem tr_cmp {op l r pos} {K1 K2:Value→Fz→Shared→Prop} {P:Bool→Prop} (hl:EvK w env n N ρ l (fun _=>K1)) (hr:EvK w env n N ρ r (fun _=>K2))
  (h1:∀ v G s G' s',K1 v G s→Step G s N G' s'→K1 v G' s')
  (hop:∀ G s v1 v2,Inn G s.heap→Bs w G→K1 v1 G s→K2 v2 G s→Op w n [] G s (compareOp op v1 v2) (KD w fun d=>∃ b,d=.bool b∧P b)) (hm:behindInMarks op r=false:=by with_unfolding_all rfl) :
  Tr w env n N ρ (.Compare l [op] [r] pos) P:=fun A G₀ s₀ M G s Q E a b c k'=>
 wpAny_isTrue_Compare1 (hl A G₀ s₀ M G s _ E a b c fun v1 G1 s1 y1 z1 q1=>hr A G₀ s₀ M G1 s1 _ E a b z1 fun v2 G2 s2 y2 z2 q2=>
  hop G2 s2 v1 v2 z2.step.inn z2.HFG (h1 _ _ _ _ _ q1 y2) q2 A _ _ a fun v G3 s3 y3 ⟨d,rd,b',hd,hb⟩=>by
   subst hd;obtain ⟨_,rfl⟩:=rd.inv
   exact wpAny_truthy_bool (k' b' G3 s3 ((y1.trans y2 fun q hq=>.inl hq).trans y3 fun _ h=>nomatch h) (z2.pure y3) hb)) hm
theorem KD.step {P:D→Prop}:∀ v G (s:Shared) G' s',KD w P v G s→Step G s N G' s'→KD w P v G' s':=fun _ _ _ _ _ ⟨d,r,p⟩ y=>⟨d,r.mono y.le,p⟩
theorem KS.step {P:List D→Prop}:∀ v G (s:Shared) G' s',KS w P v G s→Step G s [] G' s'→KS w P v G' s':=fun _ _ _ _ _ ⟨a,vs,m,ds,h1,h2,h3,h4⟩ y=>⟨a,vs,m,ds,h1,y.keep _ _ (fun h=>nomatch h) h2,h3.mono y.le,h4⟩
theorem bim_of {op:CmpOp} {r:PySem.Expr} (h1:op≠.In) (h2:op≠.NotIn):behindInMarks op r=false:=by
 cases r<;>first | rfl | (cases op<;>first | exact absurd rfl h1 | exact absurd rfl h2 | simp [behindInMarks])
theorem Op.cmp {G:Fz} {s:Shared} {t:Sem Value} {b:Bool} {P:Bool→Prop} (i:Inn G s.heap) (p:P b)
  (h:∀ A Q E,AOK n A→Q (.bool b) s→wpAny (model pw w) A t Q E s):Op w n [] G s t (KD w fun d=>∃ b,d=.bool b∧P b):=
 fun A Q E a k=>h A Q E a (k _ G _ (Step.refl i) ⟨_,.bool b,b,rfl,p⟩)
theorem tr_lt {l r pos} {P1 P2:D→Prop} {P:Bool→Prop} (hl:Ev w env n N ρ l P1) (hr:Ev w env n N ρ r P2) (h:∀ d1 d2,P1 d1→P2 d2→E2 .int .int d1 d2 fun x y=>P (decide (x < y))):Tr w env n N ρ (.Compare l [.Lt] [r] pos) P:=
 tr_cmp (hm:=bim_of (by decide) (by decide)) hl hr KD.step fun G s v1 v2 i _ ⟨d1,r1,p1⟩ ⟨d2,r2,p2⟩=>by
  obtain ⟨x,y,rfl,rfl,hp⟩:=h _ _ p1 p2
  obtain ⟨_,rfl⟩:=r1.inv;obtain ⟨_,rfl⟩:=r2.inv
  exact .cmp i hp fun A Q E _ q=>PyProof.Rows.lt_int q
theorem tr_gt {l r pos} {P1 P2:D→Prop} {P:Bool→Prop} (hl:Ev w env n N ρ l P1) (hr:Ev w env n N ρ r P2) (h:∀ d1 d2,P1 d1→P2 d2→E2 .int .int d1 d2 fun x y=>P (decide (x > y))):Tr w env n N ρ (.Compare l [.Gt] [r] pos) P:=
 tr_cmp (hm:=bim_of (by decide) (by decide)) hl hr KD.step fun G s v1 v2 i _ ⟨d1,r1,p1⟩ ⟨d2,r2,p2⟩=>by
  obtain ⟨x,y,rfl,rfl,hp⟩:=h _ _ p1 p2
  obtain ⟨_,rfl⟩:=r1.inv;obtain ⟨_,rfl⟩:=r2.inv
  exact .cmp i hp fun A Q E _ q=>PyProof.Rows.gt_int q
theorem tr_eq_str {l r pos} {P1 P2:D→Prop} {P:Bool→Prop} (hl:Ev w env n N ρ l P1) (hr:Ev w env n N ρ r P2) (h:∀ d1 d2,P1 d1→P2 d2→E2 .str .str d1 d2 fun x y=>P (x==y)):Tr w env n N ρ (.Compare l [.Eq] [r] pos) P:=
 tr_cmp (hm:=bim_of (by decide) (by decide)) hl hr KD.step fun G s v1 v2 i _ ⟨d1,r1,p1⟩ ⟨d2,r2,p2⟩=>by
  obtain ⟨x,y,rfl,rfl,hp⟩:=h _ _ p1 p2
  obtain ⟨_,rfl⟩:=r1.inv;obtain ⟨_,rfl⟩:=r2.inv
  exact .cmp i hp fun A Q E _ q=>PyProof.Rows.eq_str q
theorem tr_eq_int {l r pos} {P1 P2:D→Prop} {P:Bool→Prop} (hl:Ev w env n N ρ l P1) (hr:Ev w env n N ρ r P2) (h:∀ d1 d2,P1 d1→P2 d2→E2 .int .int d1 d2 fun x y=>P (x==y)):Tr w env n N ρ (.Compare l [.Eq] [r] pos) P:=
 tr_cmp (hm:=bim_of (by decide) (by decide)) hl hr KD.step fun G s v1 v2 i _ ⟨d1,r1,p1⟩ ⟨d2,r2,p2⟩=>by
  obtain ⟨x,y,rfl,rfl,hp⟩:=h _ _ p1 p2
  obtain ⟨_,rfl⟩:=r1.inv;obtain ⟨_,rfl⟩:=r2.inv
  exact .cmp i hp fun A Q E _ q=>PyProof.Rows.eq_int q
theorem tr_ne_str {l r pos} {P1 P2:D→Prop} {P:Bool→Prop} (hl:Ev w env n N ρ l P1) (hr:Ev w env n N ρ r P2) (h:∀ d1 d2,P1 d1→P2 d2→E2 .str .str d1 d2 fun x y=>P (x != y)):Tr w env n N ρ (.Compare l [.NotEq] [r] pos) P:=
 tr_cmp (hm:=bim_of (by decide) (by decide)) hl hr KD.step fun G s v1 v2 i _ ⟨d1,r1,p1⟩ ⟨d2,r2,p2⟩=>by
  obtain ⟨x,y,rfl,rfl,hp⟩:=h _ _ p1 p2
  obtain ⟨_,rfl⟩:=r1.inv;obtain ⟨_,rfl⟩:=r2.inv
  exact .cmp i hp fun A Q E _ q=>PyProof.Rows.ne_str q
theorem tr_ne_int {l r pos} {P1 P2:D→Prop} {P:Bool→Prop} (hl:Ev w env n N ρ l P1) (hr:Ev w env n N ρ r P2) (h:∀ d1 d2,P1 d1→P2 d2→E2 .int .int d1 d2 fun x y=>P (x != y)):Tr w env n N ρ (.Compare l [.NotEq] [r] pos) P:=
 tr_cmp (hm:=bim_of (by decide) (by decide)) hl hr KD.step fun G s v1 v2 i _ ⟨d1,r1,p1⟩ ⟨d2,r2,p2⟩=>by
  obtain ⟨x,y,rfl,rfl,hp⟩:=h _ _ p1 p2
  obtain ⟨_,rfl⟩:=r1.inv;obtain ⟨_,rfl⟩:=r2.inv
  exact .cmp i hp fun A Q E _ q=>PyProof.Rows.ne_int q
theorem tr_not {e pos} {P:Bool→Prop} (h:Tr w env n N ρ e (fun b=>P (!b))):Tr w env n N ρ (.UnaryOp .Not e pos) P:=fun A G₀ s₀ M G s Q E a b c k'=>
 PyProof.Rows.isTrue_not (h A G₀ s₀ M G s _ E a b c fun b' G' s' y z p=>k' _ _ _ y z p)
theorem tr_bool {e:PySem.Expr} {P:Bool→Prop} (h:Ev w env n N ρ e (fun d=>∃ b,d=.bool b∧P b)) (he:∀ whole,isTrue e env whole=(do let v←whole;standAt e.pos;holding [v] (truthy v)):=by intro _;rfl):Tr w env n N ρ e P:=
 fun A G₀ s₀ M G s Q E a b c k'=>PyProof.Rows.isTrue_plain (h A G₀ s₀ M G s _ E a b c fun v G' s' y z ⟨d,rd,b',hd,hb⟩=>by
  subst hd;obtain ⟨_,rfl⟩:=rd.inv
  exact wpAny_truthy_bool (k' b' G' s' y z hb)) (he _)
theorem tr_and {x r pos} {P1 P2 P:Bool→Prop} (h1:Tr w env n N ρ x P1) (h2:Tr w env n N ρ r P2) (h:∀ a b,P1 a→(a=true→P2 b)→P (a&&b)) :
  Tr w env n N ρ (.BoolOp .And [x,r] pos) P:=fun A G₀ s₀ M G s Q E a b c k'=>
 PyProof.Rows.isTrue_and (h1 A G₀ s₀ M G s _ E a b c fun b1 G1 s1 y1 z1 p1=>by
  cases b1 with
  | false=>exact k' false G1 s1 y1 z1 (h false false p1 fun e=>nomatch e)
  | true=>exact PyProof.Rows.isTrue_and (h2 A G₀ s₀ M G1 s1 _ E a b z1 fun b2 G2 s2 y2 z2 p2=>by
    have y:=y1.trans y2 fun q hq=>.inl hq
    cases b2 with
    | false=>exact k' false G2 s2 y z2 (h true false p1 fun _=>p2)
    | true=>exact PyProof.Rows.isTrue_and_nil (k' true G2 s2 y z2 (h true true p1 fun _=>p2))))
theorem evk_if {t x r pos} {P1:Bool→Prop} {K:Shared→Value→Fz→Shared→Prop} (he:∀ s0 s v G' s',K s v G' s'→(∀ a,s0.heap.get? a≠none→s.heap.get? a≠none)→K s0 v G' s')
  (ht:Tr w env n N ρ t P1) (h1:P1 true→EvK w env n N ρ x K) (h2:P1 false→EvK w env n N ρ r K):EvK w env n N ρ (.IfExp t x r pos) K:=fun A G₀ s₀ M G s Q E a b c k'=>
 PyProof.Rows.IfExp_ (ht A G₀ s₀ M G s _ E a b c fun b1 G1 s1 y1 z1 p1=>by
  cases b1 with
  | true=>exact h1 p1 A G₀ s₀ M G1 s1 _ E a b z1 fun v G' s' y z q=>k' _ _ _ (y1.trans y fun q hq=>.inl hq) z (he _ _ _ _ _ q y1.dom)
  | false=>exact h2 p1 A G₀ s₀ M G1 s1 _ E a b z1 fun v G' s' y z q=>k' _ _ _ (y1.trans y fun q hq=>.inl hq) z (he _ _ _ _ _ q y1.dom))
theorem ev_if {t x r pos} {P1:Bool→Prop} {P:D→Prop} (ht:Tr w env n N ρ t P1) (h1:P1 true→Ev w env n N ρ x P) (h2:P1 false→Ev w env n N ρ r P):Ev w env n N ρ (.IfExp t x r pos) P:=
 evk_if (fun _ _ _ _ _ x _=>x) ht h1 h2
theorem evl_if {t x r pos} {P1:Bool→Prop} {P:List D→Prop} (ht:Tr w env n N ρ t P1) (h1:P1 true→EvL w env n N ρ x P) (h2:P1 false→EvL w env n N ρ r P):EvL w env n N ρ (.IfExp t x r pos) P:=
 evk_if (fun _ _ _ _ _ x h=>x.early h) ht h1 h2
end Mine
end
section
namespace Mine
variable {w:World} {env:Env} {n:Nat} {N:List Addr} {ρ:Rho}
noncomputable def Trs (w:World) (env:Env) (n:Nat) (N:List Addr) (ρ:Rho) (ts:List (Bool×Sem Value)) (P:List D→Prop):Prop:=
 ∀ (A:Around) (G₀:Fz) (s₀:Shared) (M:List Addr) (G:Fz) (s:Shared) (Q:List Value→Shared→Prop) (E:Value→Shared→Prop),AOK n A→(∀ a∈N,a∈M)→St w env G₀ s₀ M ρ G s→
  (∀ vs G' s' ds,Step G s N G' s'→St w env G₀ s₀ M ρ G' s'→RepL w.params G' vs ds→P ds→vs.length=ts.length→Q vs s')→wpAny (model pw w) A (spliced ts) Q E s
theorem trs_nil {P:List D→Prop} (h:P []):Trs w env n N ρ [] P:=fun A G₀ s₀ M G s Q E a b c k=>wpAny_pure (k [] G s [] (Step.refl c.step.inn) c .nil h rfl)
theorem trs_cons {e:PySem.Expr} {ts:List (Bool×Sem Value)} {P1:D→Prop} {P2 P:List D→Prop} (h1:Ev w env n N ρ e P1) (h2:Trs w env n N ρ ts P2) (h:∀ d ds,P1 d→P2 ds→P (d::ds)) :
  Trs w env n N ρ ((false,eval e env)::ts) P:=fun A G₀ s₀ M G s Q E a b c k=>
 Calls.spliced_cons (h1 A G₀ s₀ M G s _ E a b c fun v G1 s1 y1 z1 ⟨d,r,p⟩=>h2 A G₀ s₀ M G1 s1 _ E a b z1 fun vs G2 s2 ds y2 z2 r2 p2 hl=>
  k (v::vs) G2 s2 (d::ds) (y1.trans y2 fun q hq=>.inl hq) z2 (.cons (r.mono y2.le) r2) (h _ _ p p2) (by simp [hl]))
theorem trs_one {e:PySem.Expr} {P1:D→Prop} {P:List D→Prop} (h1:Ev w env n N ρ e P1) (h:∀ d,P1 d→P [d]):Trs w env n N ρ [(false,eval e env)] P:=
 trs_cons h1 (trs_nil (P:=fun l=>l=[]) rfl) fun d ds p q=>by subst q;exact h d p
theorem trs_eq {e:PySem.Expr} {ts:List (Bool×Sem Value)} {d:D} {ds:List D} (h1:Ev w env n N ρ e (fun d'=>d'=d)) (h2:Trs w env n N ρ ts (fun l=>l=ds)) :
  Trs w env n N ρ ((false,eval e env)::ts) (fun l=>l=d::ds):=trs_cons h1 h2 fun _ _ p q=>by subst p;subst q;rfl
theorem ev_tuple {elts:List PySem.Expr} {k pos} {P:List D→Prop} {ts:List (Bool×Sem Value)} (h:Trs w env n N ρ ts P) (ht:backTo pos (starEach elts env)=ts:=by rfl) (hsz:ts.length≤100:=by simp) :
  Ev w env n N ρ (.Tuple elts k pos) (fun d=>∃ l,d=.tup l∧P l):=fun A G₀ s₀ M G s Q E a b c k'=>
 Tuple_ (by
  rw [ht]
  exact h A G₀ s₀ M G s _ E a b c fun vs G1 s1 ds y1 z1 r p hl=>by
   unfold newTuple
   refine wpAny_newObj_type ?_ (by show vs.toArray.size≤sizeLine;rw [List.size_toArray,hl,sizeLine_eq];exact q1 ‹_›)
   have y2:Step G s N G1 {s1 with heap:=s1.heap.push (tupO vs.toArray 0)}:=y1.trans (Step.push (N:=[]) y1.inn _ s1.toks) fun _ h=>nomatch h
   have z2:=z1.pure (Step.push (N:=[]) y1.inn (tupO vs.toArray 0) s1.toks)
   have hn:s.heap.get? s1.heap.objs.size=none:=Classical.byContradiction fun q=>y1.dom _ q (fresh_size _)
   have ho:({s1 with heap:=s1.heap.push (tupO vs.toArray 0)}:Shared).heap.get? s1.heap.objs.size=some (tupO vs.toArray 0):=Heap.get?_push_size _ rfl
   exact k' _ _ _ (y2.freeze hn ho) (c.frz z2 hn ho) ⟨_,.tup Fz.put_self (by simpa using r.mono (y2.le_put ho)),ds,rfl,p⟩)
theorem evl_list {elts:List PySem.Expr} {pos} {P:List D→Prop} {ts:List (Bool×Sem Value)} (h:Trs w env n N ρ ts P) (ht:backTo pos (starEach elts env)=ts:=by rfl) (hsz:ts.length≤100:=by simp) :
  EvL w env n N ρ (.List elts pos) P:=fun A G₀ s₀ M G s Q E a b c k'=>
 List_ (by
  rw [ht]
  exact h A G₀ s₀ M G s _ E a b c fun vs G1 s1 ds y1 z1 r p hl=>by
   unfold newList
   refine wpAny_newObj_type ?_ (by show vs.toArray.size≤sizeLine;rw [List.size_toArray,hl,sizeLine_eq];exact q1 ‹_›)
   have hn:s.heap.get? s1.heap.objs.size=none:=Classical.byContradiction fun q=>y1.dom _ q (fresh_size _)
   have hg:G1 s1.heap.objs.size=none:=by
    cases q:G1 s1.heap.objs.size with
    | none=>rfl
    | some o=>have:=y1.inn _ _ q;rw [fresh_size] at this;cases this
   exact k' _ _ _ (y1.trans (Step.push (N:=[]) y1.inn _ s1.toks) fun _ h=>nomatch h) (z1.pure (Step.push (N:=[]) y1.inn _ s1.toks))
    ⟨_,vs.toArray,0,ds,rfl,hn,hg,Heap.get?_push_size _ rfl,by simpa using r,p⟩)
theorem Op.val {G:Fz} {s:Shared} {t:Sem Value} {v:Value} {K:Value→Fz→Shared→Prop} (i:Inn G s.heap) (p:K v G s)
  (h:∀ A Q E,AOK n A→Q v s→wpAny (model pw w) A t Q E s):Op w n [] G s t K:=fun A Q E a k=>h A Q E a (k v G s (Step.refl i) p)
theorem evk_sub {value slice:PySem.Expr} {pos} {K1 K2:Value→Fz→Shared→Prop} {K:Shared→Value→Fz→Shared→Prop} (hl:EvK w env n N ρ value (fun _=>K1)) (hr:EvK w env n N ρ slice (fun _=>K2))
  (h1:∀ v G s G' s',K1 v G s→Step G s N G' s'→K1 v G' s')
  (he:∀ s0 s v G' s',K s v G' s'→(∀ a,s0.heap.get? a≠none→s.heap.get? a≠none)→K s0 v G' s')
  (hop:∀ G s v1 v2,Inn G s.heap→Bs w G→K1 v1 G s→K2 v2 G s→Op w n [] G s (subscriptTail value slice v1 v2) (K s)) :
  EvK w env n N ρ (.Subscript value slice pos) K:=fun A G₀ s₀ M G s Q E a b c k'=>
 Subscript_ (hl A G₀ s₀ M G s _ E a b c fun v1 G1 s1 y1 z1 q1=>hr A G₀ s₀ M G1 s1 _ E a b z1 fun v2 G2 s2 y2 z2 q2=>
  have y:=y1.trans y2 fun q hq=>.inl hq
  hop G2 s2 v1 v2 z2.step.inn z2.HFG (h1 _ _ _ _ _ q1 y2) q2 A _ _ a fun v G3 s3 y3 q=>
   k' v G3 s3 (y.trans y3 fun _ h=>nomatch h) (z2.pure y3) (he _ _ _ _ _ q y.dom))
noncomputable def idx (i:Int) (len:Nat):Option Nat:=if 0≤i then (if i < len then some i.toNat else none) else (if 0≤i+len then some (i+len).toNat else none)
theorem idx_seq (i:Int) (len k:Nat) (h:idx i len=some k):seqIndex? i len=some k:=by
 unfold idx at h
 show (if (decide (0≤(if i < 0 then i+len else i))&&decide ((if i < 0 then i+len else i) < len))=true then some (if i < 0 then i+len else i).toNat else none)=some k
 by_cases h0:0≤i
 ·rw [if_pos h0] at h
  rw [if_neg (Int.not_lt.mpr h0),decide_eq_true h0,Bool.true_and]
  by_cases h1:i < len
  ·rw [if_pos h1] at h;rw [if_pos (decide_eq_true h1)];exact h
  ·rw [if_neg h1] at h;cases h
 ·rw [if_neg h0] at h
  have hn:=Int.not_le.mp h0
  rw [if_pos hn]
  by_cases h1:0≤i+len
  ·rw [if_pos h1] at h
   rw [decide_eq_true h1,Bool.true_and,if_pos (decide_eq_true (by have:=Int.add_lt_add_right hn (len:Int);rwa [Int.zero_add] at this))];exact h
  ·rw [if_neg h1] at h;cases h
theorem notSlice_sub {slice:PySem.Expr} {o i:Value} (h:∀ a b c,slice≠.Slice a b none c):subscripted slice false o i=operate [o,i] (getItem o i):=by
 unfold subscripted
 split
 ·rename_i h';exact absurd rfl (h _ _ _)
 ·rename_i h';cases h'
 ·rfl
theorem RepL.arr {P:Params} {G:Fz} {vs:Array Value} {ds:List D} (h:RepL P G vs.toList ds):vs.size=ds.length:=by have:=h.length;simpa using this
theorem ev_sub_tup {value slice:PySem.Expr} {pos} {P1 P2 P:D→Prop} (hl:Ev w env n N ρ value P1) (hr:Ev w env n N ρ slice P2)
  (h:∀ d1 d2,P1 d1→P2 d2→∃ l i k d,d1=.tup l∧d2=.int i∧l.length≤1000000∧idx i l.length=some k∧l[k]? = some d∧P d) (hns:∀ a b c,slice≠.Slice a b none c:=by intro _ _ _ h;cases h):Ev w env n N ρ (.Subscript value slice pos) P:=
 evk_sub hl hr KD.step (fun _ _ _ _ _ x _=>x) fun G s v1 v2 i _ ⟨d1,r1,p1⟩ ⟨d2,r2,p2⟩=>by
  obtain ⟨l,j,k,d,rfl,rfl,hb,hk,hd,hp⟩:=h _ _ p1 p2
  obtain ⟨a,vs,m,rfl,hg,r⟩:=r1.inv
  ·
   obtain ⟨_,rfl⟩:=r2.inv
   have hlen:=r.arr
   obtain ⟨v,hv,rv⟩:=r.get hd
   have hj : -1000000≤j∧j < 1000000:=by unfold idx at hk;split at hk<;>split at hk<;>first | omega | cases hk
   refine .val i ⟨d,rv,hp⟩ fun A Q E _ q=>PyProof.Rows.item_tupleT (l:=vs.toList) (j:=k) ⟨_,by simpa using i _ _ hg,rfl,m,by simp⟩ (by omega) (by omega) ?_ hv q (notSlice_sub hns)
   simp only [Array.length_toList,hlen]
   exact idx_seq _ _ _ hk
theorem op_item_list {value slice:PySem.Expr} {G:Fz} {s:Shared} {a:Addr} {vs:Array Value} {m:Nat} {ds:List D} {j:Int} {t:Tok} {d:D} {P:D→Prop} (i:Inn G s.heap) (hg:s.heap.get? a=some (lstO vs m)) (r:RepL w.params G vs.toList ds)
  (h0:0≤j) (hb:ds.length≤1000000) (hd:ds[j.toNat]? = some d) (hp:P d) (hns:∀ a b c,slice≠.Slice a b none c):Op w n [] G s (subscriptTail value slice (.ref a) (.int j t)) (KD w P):=by
 obtain ⟨v,hv,rv⟩:=r.get hd
 have hl:s.heap.IsList a vs:=⟨_,hg,rfl,m,rfl⟩
 have hlt:j.toNat < ds.length:=(List.getElem?_eq_some_iff.mp hd).1
 exact .val i ⟨d,rv,hp⟩ fun A Q E _ q=>PyProof.Rows.tail_any hl.typeIs slot_list_getitem.lookup (wpAny_getItem_list hl h0 (by omega) (by simpa using hv) q) (notSlice_sub hns)
theorem ev_sub_lst {value slice:PySem.Expr} {pos} {P1 P2 P:D→Prop} (hl:Ev w env n N ρ value P1) (hr:Ev w env n N ρ slice P2)
  (h:∀ d1 d2,P1 d1→P2 d2→∃ l i d,d1=.lst l∧d2=.int i∧l.length≤1000000∧0≤i∧l[i.toNat]? = some d∧P d) (hns:∀ a b c,slice≠.Slice a b none c:=by intro _ _ _ h;cases h):Ev w env n N ρ (.Subscript value slice pos) P:=
 evk_sub hl hr KD.step (fun _ _ _ _ _ x _=>x) fun G s v1 v2 i _ ⟨d1,r1,p1⟩ ⟨d2,r2,p2⟩=>by
  obtain ⟨l,j,d,rfl,rfl,hb,h0,hd,hp⟩:=h _ _ p1 p2
  obtain ⟨_,_,_,rfl,hg,r⟩:=r1.inv
  obtain ⟨_,rfl⟩:=r2.inv;exact op_item_list i (i _ _ hg) r h0 hb hd hp hns
theorem ev_sub_lstS {value slice:PySem.Expr} {pos} {P1:List D→Prop} {P2 P:D→Prop} (hl:EvS w env n [] ρ value P1) (hr:Ev w env n [] ρ slice P2)
  (h:∀ l d2,P1 l→P2 d2→∃ i d,d2=.int i∧l.length≤1000000∧0≤i∧l[i.toNat]? = some d∧P d) (hns:∀ a b c,slice≠.Slice a b none c:=by intro _ _ _ h;cases h):Ev w env n [] ρ (.Subscript value slice pos) P:=
 evk_sub hl hr KS.step (fun _ _ _ _ _ x _=>x) fun G s v1 v2 i _ ⟨a,vs,m,ds,e1,hg,r,p1⟩ ⟨d2,r2,p2⟩=>by
  obtain ⟨j,d,rfl,hb,h0,hd,hp⟩:=h _ _ p1 p2
  subst e1
  obtain ⟨_,rfl⟩:=r2.inv;exact op_item_list i hg r h0 hb hd hp hns
noncomputable abbrev sk (w:World):=strKind pw w
noncomputable def look {α:Type} (l:List (Str×α)) (x:Str):Option α:=(l.find? fun p=>p.1=x).map (·.2)
inductive RepV (P:Params) (G:Fz):List (Str×Value)→List (Str×D)→Prop
 | nil:RepV P G [] []
 | cons {x v d vs ds}:Rep P G v d→RepV P G vs ds→RepV P G ((x,v)::vs) ((x,d)::ds)
theorem RepV.mono {P:Params} {G G':Fz} (hs:Le G G') {vs:List (Str×Value)} {ds:List (Str×D)} (h:RepV P G vs ds):RepV P G' vs ds:=by
 induction h with
 | nil=>exact .nil
 | cons h _ ih=>exact .cons (h.mono hs) ih
theorem RepV.names {P:Params} {G:Fz} {vs:List (Str×Value)} {ds:List (Str×D)} (h:RepV P G vs ds):vs.map (·.1)=ds.map (·.1):=by
 induction h with
 | nil=>rfl
 | cons h _ ih=>rw [List.map_cons,List.map_cons,ih]
theorem RepV.length {P:Params} {G:Fz} {vs:List (Str×Value)} {ds:List (Str×D)} (h:RepV P G vs ds):vs.length=ds.length:=by
 have:=congrArg List.length h.names
 rwa [List.length_map,List.length_map] at this
theorem RepV.look {P:Params} {G:Fz} {x:Str} {vs:List (Str×Value)} {ds:List (Str×D)} {d:D} (h:RepV P G vs ds) (e:look ds x=some d):∃ v,valueAt vs x=some v∧Rep P G v d:=by
 induction h with
 | nil=>cases e
 | @cons y v d' vs ds h r ih=>
  unfold Mine.look at e ih
  unfold valueAt at ih ⊢
  by_cases q:y=x
  ·simp [q] at e ⊢;exact e▸h
  ·simp only [List.find?_cons,q,decide_false] at e ⊢
   exact ih e
theorem RepE.pairs {G:Fz} {es:List DictEntry} {ds:List (Str×D)} (h:RepE w.params G es ds):∃ vs:List (Str×Value),Pairs (sk w) es vs∧RepV w.params G vs ds∧∀ e∈es,∃ k,(sk w).is k e.key=true∧e.hash=(sk w).hash k:=by
 induction ds generalizing es with
 | nil=>obtain ⟨_,rfl⟩:=h.inv;exact ⟨[],.nil,.nil,fun _ h=>nomatch h⟩
 | cons p ds ih=>
  obtain ⟨t,v,l,rfl,h1,h2⟩:=h.inv
  obtain ⟨x,d⟩:=p
  obtain ⟨vs,g1,g2,g3⟩:=ih h2
  refine ⟨(x,v)::vs,.cons (strKind_is pw w x t) rfl g1,.cons h1 g2,fun e he=>?_⟩
  rcases List.mem_cons.mp he with rfl | he
  ·exact ⟨x,strKind_is pw w x t,rfl⟩
  ·exact g3 e he
noncomputable def DctAt (w:World) (G:Fz) (h:Heap) (a:Addr) (ds:List (Str×D)):Prop:=∃ vs,h.DictOf (sk w) a vs∧RepV w.params G vs ds
theorem DctAt.of {G:Fz} {h:Heap} {a:Addr} {es:Array DictEntry} {m:Nat} {ds:List (Str×D)} (e:h.get? a=some (dctO es m)) (r:RepE w.params G es.toList ds) (k:(ds.map (·.1)).Nodup):DctAt w G h a ds:=by
 obtain ⟨vs,h1,h2,h3⟩:=r.pairs
 exact ⟨vs,⟨_,es,m,e,⟨rfl,rfl,rfl⟩,rfl,fun e he=>h3 e (Array.mem_toList_iff.mpr he),h1,by rw [h2.names];exact k⟩,h2⟩
theorem op_item_dct {value slice:PySem.Expr} {G:Fz} {s:Shared} {a:Addr} {ds:List (Str×D)} {x:Str} {t:Tok} {d:D} {P:D→Prop} (i:Inn G s.heap) (hd:DctAt w G s.heap a ds) (hx:look ds x=some d) (hp:P d) (hns:∀ a b c,slice≠.Slice a b none c) :
  Op w n [] G s (subscriptTail value slice (.ref a) (.str x t)) (KD w P):=by
 obtain ⟨vs,hD,r⟩:=hd
 obtain ⟨v,hv,rv⟩:=r.look hx
 exact .tok i rv hp _ fun A Q E _ q=>PyProof.Rows.tail_any hD.typeIs slot_dict_getitem.lookup (wpAny_getItem_of (strKind_is pw w x t) hD.mapOf hv q) (notSlice_sub hns)
theorem ev_sub_dct {value slice:PySem.Expr} {pos} {P1 P2 P:D→Prop} (hl:Ev w env n N ρ value P1) (hr:Ev w env n N ρ slice P2)
  (h:∀ d1 d2,P1 d1→P2 d2→∃ l x d,d1=.dct l∧d2=.str x∧look l x=some d∧P d) (hns:∀ a b c,slice≠.Slice a b none c:=by intro _ _ _ h;cases h):Ev w env n N ρ (.Subscript value slice pos) P:=
 evk_sub hl hr KD.step (fun _ _ _ _ _ x _=>x) fun G s v1 v2 i _ ⟨d1,r1,p1⟩ ⟨d2,r2,p2⟩=>by
  obtain ⟨l,x,d,rfl,rfl,hx,hp⟩:=h _ _ p1 p2
  obtain ⟨a,es,m,rfl,hg,r,k⟩:=r1.inv
  obtain ⟨_,rfl⟩:=r2.inv;exact op_item_dct i (.of (i _ _ hg) r k) hx hp hns
inductive PEv (w:World) (env:Env) (n:Nat) (N:List Addr) (ρ:Rho):Option PySem.Expr→(Option Int→Prop)→Prop
 | none {P:Option Int→Prop}:P .none→PEv w env n N ρ .none P
 | some {e P}:Ev w env n N ρ e (fun d=>∃ i,d=.int i∧P (.some i))→PEv w env n N ρ (.some e) P
theorem PEv.go {e:Option PySem.Expr} {P:Option Int→Prop} (x:PEv w env n N ρ e P) (A:Around) (G₀:Fz) (s₀:Shared) (M:List Addr) (G:Fz) (s:Shared) (Q:Value→Shared→Prop) (E:Value→Shared→Prop)
  (a:AOK n A) (b:∀ a∈N,a∈M) (c:St w env G₀ s₀ M ρ G s) (k:∀ v G' s' o,Step G s N G' s'→St w env G₀ s₀ M ρ G' s'→IsPart v o→P o→Q v s'):wpAny (model pw w) A (valueOrNone (evalOpt e env)) Q E s:=by
 cases x with
 | none p=>exact wpAny_pure (k _ G s _ (Step.refl c.step.inn) c .none p)
 | some h=>exact h A G₀ s₀ M G s Q E a b c fun v G' s' y z ⟨d,r,i,hd,p⟩=>by subst hd;obtain ⟨_,rfl⟩:=r.inv;exact k _ G' s' _ y z (.int _ _) p
inductive KSl (P1 P2 P3:Option Int→Prop) (v:Value) (s':Shared):Prop
 | mk (sl:Addr) (vl vu vk:Value) (l u k:Option Int):v=.ref sl→s'.heap.IsSliceOf sl vl vu vk→IsPart vl l→IsPart vu u→IsPart vk k→P1 l→P2 u→P3 k→KSl P1 P2 P3 v s'
theorem evk_slice {lo hi st:Option PySem.Expr} {pos} {P1 P2 P3:Option Int→Prop} (h1:PEv w env n N ρ lo P1) (h2:PEv w env n N ρ hi P2) (h3:PEv w env n N ρ st P3) :
  EvK w env n N ρ (.Slice lo hi st pos) (fun _ v _ s'=>KSl P1 P2 P3 v s'):=fun A G₀ s₀ M G s Q E a b c k'=>by
 show wpAny _ _ (do let l←valueOrNone (evalOpt lo env);let u←holding [l] (valueOrNone (evalOpt hi env));let s←holding [l,u] (valueOrNone (evalOpt st env));newFields "slice" [l,u,s]) _ _ _
 refine wpAny_bind (h1.go A G₀ s₀ M G s _ E a b c fun v1 G1 s1 o1 y1 z1 i1 p1=>wpAny_bind (wpAny_holding (h2.go A G₀ s₀ M G1 s1 _ E a b z1 fun v2 G2 s2 o2 y2 z2 i2 p2=>
  wpAny_bind (wpAny_holding (h3.go A G₀ s₀ M G2 s2 _ E a b z2 fun v3 G3 s3 o3 y3 z3 i3 p3=>?_)))))
 unfold newFields
 refine wpAny_newObj_type ?_ (by show _≤_;rw [sizeLine_eq];simp)
 exact k' _ _ _ (((y1.trans y2 fun q hq=>.inl hq).trans y3 fun q hq=>.inl hq).trans (Step.push (N:=[]) y3.inn _ s3.toks) fun _ h=>nomatch h) (z3.pure (Step.push (N:=[]) y3.inn _ s3.toks))
  ⟨_,v1,v2,v3,o1,o2,o3,rfl,Heap.IsSliceOf.new ..,i1,i2,i3,p1,p2,p3⟩
noncomputable def pick {α:Type} (l:List α) (lo hi:Option Int):List α:=(l.drop (kms_lo lo l.length)).take (kms_hi hi l.length - kms_lo lo l.length)
theorem RepL.pick {P:Params} {G:Fz} {vs:List Value} {ds:List D} (lo hi:Option Int) (h:RepL P G vs ds):RepL P G (Mine.pick vs lo hi) (Mine.pick ds lo hi):=by
 unfold Mine.pick;rw [h.length];exact (h.drop _).take _
theorem subscripted_slice {lo hi:Option PySem.Expr} {pos:Pos} {o i:Value}:subscripted (.Slice lo hi none pos) false o i=operate [i,o] (getItem o i):=rfl
theorem evl_sliceS {value:PySem.Expr} {lo hi:Option PySem.Expr} {sp pos} {P1 P:List D→Prop} {P2 P3:Option Int→Prop} (hl:EvS w env n [] ρ value P1) (h1:PEv w env n [] ρ lo P2) (h2:PEv w env n [] ρ hi P3)
  (h:∀ l a b,P1 l→P2 a→P3 b→l.length≤1000000∧P (pick l a b)):EvL w env n [] ρ (.Subscript value (.Slice lo hi none sp) pos) P:=
 evk_sub hl (evk_slice h1 h2 (.none (P:=fun o=>o=none) rfl)) KS.step (fun _ _ _ _ _ x h=>x.early h) fun G s v1 v2 i _ ⟨a,vs,m,ds,e1,hg,r,p1⟩ ⟨sl,vl,vu,vk,o1,o2,o3,e2,hs,i1,i2,i3,q1,q2,q3⟩=>by
  subst e1;subst e2;subst q3
  obtain ⟨hb,hp⟩:=h _ _ _ p1 q1 q2
  have hlen:=r.arr
  refine fun A Q E _ k=>PyProof.Rows.tail_any (T:="list") ⟨_,hg,rfl⟩ slot_list_getitem.lookup (wpAny_getItem_list_slice ⟨_,hg,rfl,m,rfl⟩ hs i1 i2 i3 (by simp) ?_ (by rw [sizeLine_eq];exact qk ‹_› ‹_›)) subscripted_slice
  have hgn:G s.heap.objs.size=none:=by
   cases q:G s.heap.objs.size with
   | none=>rfl
   | some o=>have:=i _ _ q;rw [fresh_size] at this;cases this
  refine k _ G _ (Step.push i _ s.toks) ⟨_,_,0,_,rfl,fresh_size _,hgn,Heap.get?_push_size _ rfl,?_,hp⟩
  rw [kms_pick_eq]
  exact r.pick _ _
theorem evl_rev {value:PySem.Expr} {k1 p1 p2 sp pos} {P1 P:List D→Prop} (hl:EvS w env n [] ρ value P1) (h:∀ l,P1 l→l.length≤1000000∧P l.reverse)
  (hst:Ev w env n [] ρ (.UnaryOp .USub (.Constant (.int 1) k1 p1) p2) (fun d=>d=.int (-1))) :
  EvL w env n [] ρ (.Subscript value (.Slice none none (some (.UnaryOp .USub (.Constant (.int 1) k1 p1) p2)) sp) pos) P:=
 evk_sub hl (evk_slice (.none (P:=fun o=>o=none) rfl) (.none (P:=fun o=>o=none) rfl) (.some (P:=fun o=>o=some (-1)) (hst.mono fun _ _ _ _ _ ⟨d,r,e⟩=>⟨d,r,_,e,rfl⟩))) KS.step (fun _ _ _ _ _ x h=>x.early h)
  fun G s v1 v2 i _ ⟨a,vs,m,ds,e1,hg,r,p1⟩ ⟨sl,vl,vu,vk,o1,o2,o3,e2,hs,i1,i2,i3,q1,q2,q3⟩=>by
  subst e1;subst e2;subst q1;subst q2;subst q3
  obtain ⟨hb,hp⟩:=h _ p1
  have hlen:=r.arr
  refine fun A Q E _ k=>PyProof.Rows.tail_any (T:="list") ⟨_,hg,rfl⟩ slot_list_getitem.lookup (wpAny_getItem_list_slice ⟨_,hg,rfl,m,rfl⟩ hs i1 i2 i3 (by simp) ?_ (by rw [sizeLine_eq];exact qk ‹_› ‹_›)) (notSlice_sub (by intro _ _ _ h;cases h))
  have hgn:G s.heap.objs.size=none:=by
   cases q:G s.heap.objs.size with
   | none=>rfl
   | some o=>have:=i _ _ q;rw [fresh_size] at this;cases this
  refine k _ G _ (Step.push i _ s.toks) ⟨_,_,0,_,rfl,fresh_size _,hgn,Heap.get?_push_size _ rfl,?_,hp⟩
  rw [krv_pick]
  simpa using r.reverse
theorem part_index {s:Shared} {A:Around} {E:Value→Shared→Prop} {v:Value} {o:Option Int} (h:IsPart v o) {Q:Option Int→Shared→Prop} (q:Q o s):wpAny (model pw w) A (Builtin.Slice.slicePartIndex v) Q E s:=by
 cases h with
 | none=>exact PyProof.Rows.slicePart_none q
 | int i t=>exact PyProof.Rows.slicePart_int q
theorem clip_neg {x:Int} (k:Nat) (h:x < 0):max (x+k) 0=((k - (-x).toNat:Nat):Int):=by
 obtain ⟨m,rfl⟩:=Int.eq_negSucc_of_lt_zero h
 rw [← Int.ofNat_toNat,Int.add_comm]
 exact congrArg _ (Int.toNat_sub k (m+1))
theorem clip_pos {x:Int} (k:Nat) (h:¬ x < 0):min x (k:Int)=((min x.toNat k:Nat):Int):=by
 obtain ⟨m,rfl⟩:=Int.eq_ofNat_of_zero_le (Int.not_lt.mp h)
 rcases Nat.le_total m k with h | h
 ·rw [Int.min_eq_left (Int.ofNat_le.mpr h)];exact congrArg Int.ofNat (Nat.min_eq_left h).symm
 ·rw [Int.min_eq_right (Int.ofNat_le.mpr h)];exact congrArg Int.ofNat (Nat.min_eq_right h).symm
theorem clip_eq (x:Int) (k:Nat):(if x < 0 then max (x+k) 0 else min x (k:Int))=((if x < 0 then k - (-x).toNat else min x.toNat k:Nat):Int):=by
 by_cases h:x < 0
 ·rw [if_pos h,if_pos h,clip_neg k h]
 ·rw [if_neg h,if_neg h,clip_pos k h]
theorem adjust_eq (lo hi:Option Int) (k:Nat):Builtin.Slice.sliceAdjust lo hi 1 (k:Int)=(((kms_lo lo k:Nat):Int),((kms_hi hi k:Nat):Int)):=by
 refine Prod.ext ?_ ?_
 ·cases lo with
  | none=>rfl
  | some x=>exact clip_eq x k
 ·cases hi with
  | none=>rfl
  | some x=>exact clip_eq x k
theorem places_eq (a b:Nat):Builtin.Slice.slicePlaces (a:Int) (b:Int) 1=b - a:=by
 show (if (a:Int) < b then ((b:Int) - a - 1) / 1+1 else 0).toNat=b - a
 rw [Int.ediv_one,Int.sub_add_cancel]
 by_cases h:(a:Int) < b
 ·rw [if_pos h];exact Int.toNat_sub b a
 ·rw [if_neg h];exact (Nat.sub_eq_zero_of_le (Int.ofNat_le.mp (Int.not_lt.mp h))).symm
theorem sliceApplied_any {s:Shared} {A:Around} {E:Value→Shared→Prop} {sl:Addr} {vl vu vk:Value} {lo hi:Option Int} {k:Nat} {Q:Int×Int×Nat→Shared→Prop} (hs:s.heap.IsSliceOf sl vl vu vk) (i1:IsPart vl lo) (i2:IsPart vu hi) (i3:IsPart vk none)
  (q:Q ((kms_lo lo k:Nat),1,kms_hi hi k - kms_lo lo k) s):wpAny (model pw w) A (Builtin.Slice.sliceApplied (.ref sl) (pure (k:Int))) Q E s:=by
 obtain ⟨os,hos,hcs,hds⟩:=id hs
 unfold Builtin.Slice.sliceApplied Builtin.Slice.sliceFields
 refine wpAny_bind (wpAny_bind (wpAny_field hos hds (x:=vl) rfl (wpAny_bind (wpAny_field hos hds (x:=vu) rfl (wpAny_bind (wpAny_field hos hds (x:=vk) rfl (wpAny_pure ?_)))))))
 refine wpAny_bind (part_index i3 ?_)
 show wpAny _ _ (if ((1:Int)==0)=true then _ else _) _ _ s
 rw [if_neg (by decide)]
 refine wpAny_bind (part_index i1 (wpAny_bind (part_index i2 (wpAny_bind (wpAny_pure ?_)))))
 show wpAny _ _ (match Builtin.Slice.sliceAdjust lo hi 1 (k:Int) with | (lo,hi)=>pure (lo,(1:Int),Builtin.Slice.slicePlaces lo hi 1)) _ _ s
 rw [adjust_eq]
 show wpAny _ _ (pure (((kms_lo lo k:Nat):Int),(1:Int),Builtin.Slice.slicePlaces ((kms_lo lo k:Nat):Int) ((kms_hi hi k:Nat):Int) 1)) _ _ s
 rw [places_eq]
 exact wpAny_pure q
theorem pick_any (xs:Array Value) (a c:Nat):((List.range c).filterMap fun (k:Nat)=>xs[((a:Int)+(k:Int) * 1).toNat]?).toArray=((xs.toList.drop a).take c).toArray:=by
 have e:(fun (k:Nat)=>xs[((a:Int)+(k:Int) * 1).toNat]?)=fun k=>xs[a+k]?:=by
  funext k
  rw [Int.mul_one];rfl
 rw [e]
 have:=pick_run xs a c
 rw [List.filterMap_map] at this
 have e2:((fun x=>xs[x]?)∘fun x=>a+x)=fun k=>xs[a+k]?:=rfl
 rw [e2] at this
 rw [this]
theorem getItem_tuple_slice {s:Shared} {A:Around} {E:Value→Shared→Prop} {t sl:Addr} {items:Array Value} {vl vu vk:Value} {lo hi:Option Int} {Q:Value→Shared→Prop} (ht:IsTup s.heap t items) (hs:s.heap.IsSliceOf sl vl vu vk) (i1:IsPart vl lo) (i2:IsPart vu hi) (i3:IsPart vk none)
  (hsz:items.size≤sizeLine)
  (h1:pick items.toList lo hi=items.toList→Q (.ref t) s)
  (h2:Q (.ref s.heap.objs.size) {s with heap:=s.heap.push {cls:=.type "tuple",data:=.seq (pick items.toList lo hi).toArray}}) :
  wpAny (model pw w) A (getItem (.ref t) (.ref sl)) Q E s:=by
 have hlen:(pick items.toList lo hi).length≤items.size:=by
  unfold pick
  rw [List.length_take,List.length_drop]
  simp
  omega
 have hdrop:sizeOk (.seq (pick items.toList lo hi).toArray):=by
  show (pick items.toList lo hi).toArray.size≤sizeLine
  rw [List.size_toArray]
  exact q2 ‹_› ‹_›
 obtain ⟨os,hos,hcs,hds⟩:=id hs
 have hTs:s.TypeIs (.ref sl) "slice":=⟨os,hos,hcs⟩
 unfold getItem
 try with_reducible refine wpAny_holding ?_
 first | refine wpAny_bind (wpAny_pure ?_) | skip
 refine wpAny_bind (wpAny_sequenceKey ht.typeIs (by decide) ?_)
 refine wpAny_bind (wpAny_callSpecial?_slot (name:=Str.ofString "__getitem__") ht.typeIs PyProof.Rows.slot_tuple_getitem
  (wpAny_call_entry PyProof.Rows.slot_tuple_getitem ht.typeIs PyProof.Rows.entry_tuple_getitem ?_ (PyProof.Rows.args_tuple_getitem _ _)))
 show wpAny _ _ (Builtin.Tuple.tupleItemsOf (.ref t) >>= _) _ _ s
 refine wpAny_bind (PyProof.Rows.tupleItemsOf_ ht ?_)
 refine wpAny_bind (wpAny_typeOf hTs ?_)
 rw [if_pos (by decide)]
 refine wpAny_bind (sliceApplied_any hs i1 i2 i3 (k:=items.size) ?_)
 show wpAny _ _ (if (((kms_lo lo items.size:Nat):Int)==0&&(1:Int)==1&&(kms_hi hi items.size - kms_lo lo items.size)==items.size)=true then _ else _) _ _ s
 by_cases hq:(((kms_lo lo items.size:Nat):Int)==0&&(1:Int)==1&&(kms_hi hi items.size - kms_lo lo items.size)==items.size)=true
 ·rw [if_pos hq]
  simp only [Bool.and_eq_true,beq_iff_eq] at hq
  have hp:pick items.toList lo hi=items.toList:=by
   unfold pick
   rw [Array.length_toList]
   have e0:kms_lo lo items.size=0:=Int.ofNat.inj hq.1.1
   rw [hq.2,e0,List.drop_zero,List.take_of_length_le (by simp)]
  have q1:=h1 hp
  refine wpAny_bind ?_
  unfold Builtin.Tuple.tupleIsExact
  refine wpAny_bind (wpAny_typeOf ht.typeIs (wpAny_pure ?_))
  rw [if_pos (by decide)]
  exact wpAny_bind (wpAny_rule (wpAny_pure ⟨_,rfl,wpAny_pure q1⟩))
 ·rw [if_neg hq,pick_any]
  have e:(items.toList.drop (kms_lo lo items.size)).take (kms_hi hi items.size - kms_lo lo items.size)=pick items.toList lo hi:=by unfold pick;rw [Array.length_toList]
  rw [e]
  first
   | exact wpAny_bind (m:=Builtin.Tuple.tupleExact _) (wpAny_newObj_type (wpAny_pure ⟨_,rfl,wpAny_pure h2⟩) hdrop)
   | exact wpAny_bind (m:=Builtin.Tuple.tupleExact _) (wpAny_newObj_type (wpAny_bind (wpAny_pure (wpAny_pure ⟨_,rfl,wpAny_pure h2⟩))) hdrop)
   | exact wpAny_bind (wpAny_bind (m:=Builtin.Tuple.tupleExact _) (wpAny_newObj_type (wpAny_pure (wpAny_pure ⟨_,rfl,wpAny_pure h2⟩)) hdrop))
   | exact wpAny_bind (wpAny_bind (m:=Builtin.Tuple.tupleExact _) (wpAny_newObj_type (wpAny_pure ⟨_,rfl,wpAny_pure h2⟩) hdrop))
theorem ev_sliceT {value:PySem.Expr} {lo hi:Option PySem.Expr} {sp pos} {P1 P:D→Prop} {P2 P3:Option Int→Prop} (hl:Ev w env n N ρ value P1) (h1:PEv w env n N ρ lo P2) (h2:PEv w env n N ρ hi P3)
  (h:∀ d a b,P1 d→P2 a→P3 b→E1 .tup d fun l=>l.length≤1000000∧P (.tup (pick l a b))):Ev w env n N ρ (.Subscript value (.Slice lo hi none sp) pos) P:=
 evk_sub hl (evk_slice h1 h2 (.none (P:=fun o=>o=none) rfl)) KD.step (fun _ _ _ _ _ x _=>x) fun G s v1 v2 i _ ⟨d1,r1,p1⟩ ⟨sl,vl,vu,vk,o1,o2,o3,e2,hs,i1,i2,i3,q1,q2,q3⟩=>by
  obtain ⟨l,rfl,hb,hp⟩:=h _ _ _ p1 q1 q2
  subst e2;subst q3
  obtain ⟨a,vs,m,rfl,hg,r⟩:=r1.inv
  ·
   have hlen:=r.arr
   have ho:=i _ _ hg
   refine fun A Q E _ k=>PyProof.Rows.tail_any (T:="tuple") ⟨_,ho,rfl⟩ PyProof.Rows.slot_tuple_getitem.lookup (getItem_tuple_slice ⟨_,ho,rfl,m,rfl⟩ hs i1 i2 i3 (by rw [sizeLine_eq];exact qk ‹_› ‹_›) (fun e=>?_) ?_) subscripted_slice
   ·refine k _ G _ (Step.refl i) ⟨_,.tup hg ?_,hp⟩
    have:=r.pick o1 o2
    rw [e] at this;exact this
   ·have y:=Step.push (N:=[]) i (tupO (pick vs.toList o1 o2).toArray 0) s.toks
    have hn:=fresh_size s.heap
    have ho':({s with heap:=s.heap.push (tupO (pick vs.toList o1 o2).toArray 0)}:Shared).heap.get? s.heap.objs.size=some (tupO (pick vs.toList o1 o2).toArray 0):=Heap.get?_push_size _ rfl
    exact k _ _ _ (y.freeze hn ho') ⟨_,.tup Fz.put_self (by simpa using (r.pick o1 o2).mono (y.le_put ho')),hp⟩
theorem ev_neg1 {k1 p1 p2}:Ev w env n N ρ (.UnaryOp .USub (.Constant (.int 1) k1 p1) p2) (fun d=>d=.int (-1)):=fun A G₀ s₀ M G s Q E a b c k'=>by
 show wpAny _ _ (do let v←eval (.Constant (.int 1) k1 p1) env;standAt p2;holding [v] (unaryOp .USub v)) _ _ _
 refine wpAny_bind (wpAny_Constant_int (wpAny_bind (wpAny_standAt (wpAny_holding (PyProof.Rows.neg_int ?_)))))
 exact k' _ _ _ (Step.of_keeps c.step.inn ⟨s.heap,_,rfl,fun _ _ e=>e⟩) (c.pure (Step.of_keeps c.step.inn ⟨s.heap,_,rfl,fun _ _ e=>e⟩)) ⟨_,.int _ _,rfl⟩
end Mine
end
section
namespace Mine
variable {w:World} {env:Env} {n:Nat} {N:List Addr} {ρ:Rho}
inductive Upd (x:Str) (K:Kd):Rho→Rho→Prop
 | hit {K' ρ}:Upd x K ((some x,K')::ρ) ((some x,K)::ρ)
 | skip {y K' ρ ρ'}:y≠some x→Upd x K ρ ρ'→Upd x K ((y,K')::ρ) ((y,K')::ρ')
 | new:Upd x K [] [(some x,K)]
theorem Upd.mem {x:Str} {K:Kd} {ρ ρ':Rho} (u:Upd x K ρ ρ'):ρ.Pairwise Sep→∀ q∈ρ',q=(some x,K)∨(q∈ρ∧q.1≠some x):=by
 induction u with
 | hit=>
  intro hp q hq
  rcases List.mem_cons.mp hq with e | hq
  ·exact .inl e
  ·refine .inr ⟨.tail _ hq,fun e=>?_⟩
   have:=(List.pairwise_cons.mp hp).1 q hq
   exact this.1.elim (fun h=>nomatch h) fun h=>h e.symm
 | skip hy _ ih=>
  intro hp q hq
  rcases List.mem_cons.mp hq with e | hq
  ·subst e;exact .inr ⟨.head _,hy⟩
  ·exact (ih (List.pairwise_cons.mp hp).2 q hq).imp_right fun h=>⟨.tail _ h.1,h.2⟩
 | new=>exact fun _ q hq=>.inl (List.mem_singleton.mp hq)
theorem Upd.sep {x:Str} {K:Kd} {ρ ρ':Rho} (u:Upd x K ρ ρ'):ρ.Pairwise Sep→(∀ q∈ρ,q.1≠some x→(∀ a∈K.ow,a∉q.2.fp)∧(∀ a∈q.2.ow,a∉K.fp))→ρ'.Pairwise Sep:=by
 induction u with
 | hit=>
  intro hp hs
  have h1:=List.pairwise_cons.mp hp
  refine List.pairwise_cons.mpr ⟨fun q hq=>?_,h1.2⟩
  have hne:q.1≠some x:=fun e=>(h1.1 q hq).1.elim (fun h=>nomatch h) fun h=>h e.symm
  have h2:=hs q (.tail _ hq) hne
  exact ⟨.inr fun e=>hne e.symm,h2.1,h2.2⟩
 | @skip y K' _ _ hy h ih=>
  intro hp hs
  have h1:=List.pairwise_cons.mp hp
  refine List.pairwise_cons.mpr ⟨fun q hq=>?_,ih h1.2 fun q hq=>hs q (.tail _ hq)⟩
  rcases h.mem h1.2 q hq with e | e
  ·subst e
   have h2:=hs (y,K') (.head _) hy
   exact ⟨.inr hy,h2.2,h2.1⟩
  ·exact h1.1 q e.1
 | new=>exact fun _ _=>List.pairwise_singleton _ _
theorem Ns.same {h:Heap} {a:Addr} {m m':Str→Option Value} (x:h.Ns a m) (y:h.Ns a m') (n:Str):m n=m' n:=by
 obtain ⟨o,es,ep,e,d,_,f⟩:=x
 obtain ⟨o',es',ep',e',d',_,f'⟩:=y
 rw [e] at e';cases e'
 rw [d] at d';cases d'
 rw [← f n,f' n]
theorem St.store {G₀ G:Fz} {s₀ s:Shared} {M:List Addr} (c:St w env G₀ s₀ M ρ G s) (hk:env.scope.kind=.function) {x:Str} (hx:env.kindOf x=some .local∨(env.kindOf x=some .cell∧(env.cells.lookup x).isSome=true∧env.func.isSome=true)) {K:Kd} {ρ':Rho} {v:Value} (hu:Upd x K ρ ρ')
  (hp:K.p v G s.heap) (hf:∀ a∈K.fp,s.heap.get? a≠none∧a≠env.locals∧∀ y c,env.cells.lookup y=some c→a≠c) (ho:∀ a∈K.ow,a∈K.fp∧G a=none∧(a∈M∨s₀.heap.get? a=none))
  (hs:∀ q∈ρ,q.1≠some x→(∀ a∈K.ow,a∉q.2.fp)∧(∀ a∈q.2.ow,a∉K.fp))
  {A:Around} {Q:Unit→Shared→Prop} {E:Value→Shared→Prop} (h:∀ s',St w env G₀ s₀ M ρ' G s'→Q () s'):wpAny (model pw w) A (storeName env x v) Q E s:=by
 obtain ⟨m,hn⟩:=c.fr
 have cellNe:∀ y cc,env.cells.lookup y=some cc→cc≠env.locals:=fun y cc hm e=>by
  obtain ⟨⟨v',o,e1,e2⟩,_⟩:=c.cell y cc hm
  obtain ⟨o',es,ep,e3,e4,_⟩:=hn
  rw [e,e3] at e1;cases e1
  rw [e4] at e2;cases e2
 have fin:∀ (h':Heap) (a:Addr) (tk:Nat),(a=env.locals∨(env.func.isSome=true∧∃ y,env.cells.lookup y=some a))→Heap.SameBut a s.heap h'→(h'.get? a≠none)→(∃ m,h'.Ns env.locals m)→(∀ y cc,env.cells.lookup y=some cc→∃ v,h'.IsCell cc v)→
   VarAt env h' x v→(∀ y u,y≠x→VarAt env s.heap y u→VarAt env h' y u)→Q () {s with heap:=h',toks:=tk}:=by
  intro h' a tk ha hsb hex hfr hcells hvx hvy
  have hGa:G a=none:=by
   rcases ha with rfl | ⟨hfu,y,hm⟩
   ·exact c.GL
   ·exact (c.cell y a hm).2
  have h0a:s₀.heap.get? a=none:=by
   rcases ha with rfl | ⟨hfu,y,hm⟩
   ·exact c.newL
   ·exact c.cnew hfu y a hm
  have nfp:∀ K':Kd,(∀ b∈K'.fp,s.heap.get? b≠none∧b≠env.locals∧∀ y c,env.cells.lookup y=some c→b≠c)→a∉K'.fp:=fun K' hb hm=>by
   obtain ⟨_,h2,h3⟩:=hb a hm
   rcases ha with e | ⟨_,y,hy⟩
   ·exact h2 e
   ·exact h3 y a hy rfl
  have y:Step G s [a] G {s with heap:=h',toks:=tk}:=⟨⟨h',tk,rfl⟩,Le.rfl,fun b o e=>(hsb.2 b fun q=>by rw [q,hGa] at e;cases e).trans (c.step.inn b o e),fun _ _ e=>.inl e,
   fun b o hb e=>(hsb.2 b fun q=>hb (List.mem_singleton.mpr q)).trans e,fun b hb=>by
    by_cases q:b=a
    ·rw [q];exact hex
    ·show h'.get? b≠none;rw [hsb.2 b q];exact hb⟩
  have kp:∀ b o,b≠a→s.heap.get? b=some o→h'.get? b=some o:=fun b o q e=>(hsb.2 b q).trans e
  refine h _ {step:=c.step.trans y fun b hb=>.inr (by rw [List.mem_singleton.mp hb];exact h0a),base:=c.base,fr:=hfr,newL:=c.newL,GL:=c.GL,cell:=fun z cc hm=>⟨hcells z cc hm,(c.cell z cc hm).2⟩,apart:=c.apart,cnew:=c.cnew,vars:=?_,fps:=?_,ows:=?_,sep:=hu.sep c.sep hs}
  ·intro q hq
   rcases hu.mem c.sep q hq with e | ⟨e,f⟩
   ·subst e
    exact ⟨v,hvx,K.st Le.rfl (fun b hb o e=>kp b o (fun q=>nfp K hf (q▸hb)) e) hp⟩
   ·obtain ⟨nm,K'⟩:=q
    have hh:=c.vars _ e
    have hst:∀ {u:Value},K'.p u G s.heap→K'.p u G h':=fun hu=>K'.st Le.rfl (fun b hb o e'=>kp b o (fun q=>nfp K' (fun b hb=>c.fps _ e b hb) (q▸hb)) e') hu
    cases nm with
    | none=>exact hst hh
    | some z=>obtain ⟨u,h1,h2⟩:=hh;exact ⟨u,hvy z u (fun q=>f (by rw [q])) h1,hst h2⟩
  ·intro q hq b hb
   rcases hu.mem c.sep q hq with e | ⟨e,f⟩
   ·subst e
    obtain ⟨h1,h2,h3⟩:=hf b hb
    exact ⟨y.dom b h1,h2,h3⟩
   ·obtain ⟨h1,h2,h3⟩:=c.fps q e b hb
    exact ⟨y.dom b h1,h2,h3⟩
  ·intro q hq b hb
   rcases hu.mem c.sep q hq with e | ⟨e,f⟩
   ·subst e;exact ho b hb
   ·exact c.ows q e b hb
 rcases hx with hl | ⟨hl,hc,hfu⟩
 ·refine wpAny_storeName_local hl hn (fun h' hn' hsb=>fin h' env.locals _ (.inl rfl) hsb ?_ ⟨_,hn'⟩ ?_ (.inl ⟨hl,_,hn',by simp⟩) ?_) (by rw [hk];rfl)
  ·obtain ⟨o,es,ep,e,_⟩:=hn';rw [e];exact fun h=>nomatch h
  ·intro y cc hm
   obtain ⟨⟨v',hv'⟩,_⟩:=c.cell y cc hm
   exact ⟨v',hv'.sameBut hsb (cellNe y cc hm)⟩
  ·intro y u hy hv
   rcases hv with ⟨ky,m2,hn2,hm2⟩ | ⟨ky,cc,hcc,hcell⟩
   ·exact .inl ⟨ky,_,hn',by simp only [hy,if_false];rw [← hm2];exact Ns.same hn hn2 y⟩
   ·exact .inr ⟨ky,cc,hcc,hcell.sameBut hsb (cellNe y cc hcc)⟩
 ·obtain ⟨cc,hcc⟩:=Option.isSome_iff_exists.mp hc
  obtain ⟨⟨v0,hv0⟩,_⟩:=c.cell x cc hcc
  refine wpAny_storeName_cell hk hl hcc hv0 fun h' hc' hsb=>fin h' cc _ (.inr ⟨hfu,x,hcc⟩) hsb ?_ ⟨m,hn.sameBut hsb fun e=>cellNe x cc hcc e.symm⟩ ?_ (.inr ⟨.inl hl,cc,hcc,hc'⟩) ?_
  ·obtain ⟨o,e,_⟩:=hc';rw [e];exact fun h=>nomatch h
  ·intro y c2 hm
   by_cases q:c2=cc
   ·rw [q];exact ⟨_,hc'⟩
   ·obtain ⟨⟨v',hv'⟩,_⟩:=c.cell y c2 hm
    exact ⟨v',hv'.sameBut hsb q⟩
  ·intro y u hy hv
   rcases hv with ⟨ky,m2,hn2,hm2⟩ | ⟨ky,c2,hc2,hcell⟩
   ·exact .inl ⟨ky,m2,hn2.sameBut hsb fun e=>cellNe x cc hcc e.symm,hm2⟩
   ·exact .inr ⟨ky,c2,hc2,hcell.sameBut hsb fun e=>hy (name_of_addr c.apart (mem_of_lookup hc2) (e▸mem_of_lookup hcc))⟩
end Mine
end
section
namespace Mine
variable {w:World} {env:Env} {n:Nat} {N:List Addr} {ρ:Rho}
theorem bindL_out {kf:Str→Option NameKind} {x:Str} {l:List (Str×Value)} {m:Str→Option Value} (h:x∉l.map (·.1)):bindL kf l m x=m x:=by
 induction l generalizing m with
 | nil=>rfl
 | cons p r ih=>
  obtain ⟨y,v⟩:=p
  simp only [List.map_cons,List.mem_cons,not_or] at h
  unfold bindL
  rw [ih h.2]
  split
  ·simp [h.1]
  ·rfl
theorem bindL_mem {kf:Str→Option NameKind} {x:Str} {v:Value} (hk:kf x=some .local) {l:List (Str×Value)} {m:Str→Option Value} (hn:(l.map (·.1)).Nodup) (h:(x,v)∈l):bindL kf l m x=some v:=by
 induction l generalizing m with
 | nil=>cases h
 | cons p r ih=>
  obtain ⟨y,u⟩:=p
  have hn:=List.nodup_cons.mp hn
  unfold bindL
  rcases List.mem_cons.mp h with e | h
  ·cases e
   rw [bindL_out hn.1,if_pos hk];simp
  ·exact ih hn.2 h
theorem bindC_out {kf:Str→Option NameKind} {x:Str} {l:List (Str×Value)} {m:Str→Option Value} (h:x∉l.map (·.1)):bindC kf l m x=m x:=by
 induction l generalizing m with
 | nil=>rfl
 | cons p r ih=>
  obtain ⟨y,v⟩:=p
  simp only [List.map_cons,List.mem_cons,not_or] at h
  unfold bindC
  rw [ih h.2]
  split
  ·rfl
  ·simp [h.1]
theorem bindC_mem {kf:Str→Option NameKind} {x:Str} {v:Value} (hk:kf x=some .cell) {l:List (Str×Value)} {m:Str→Option Value} (hn:(l.map (·.1)).Nodup) (h:(x,v)∈l):bindC kf l m x=some v:=by
 induction l generalizing m with
 | nil=>cases h
 | cons p r ih=>
  obtain ⟨y,u⟩:=p
  have hn:=List.nodup_cons.mp hn
  unfold bindC
  rcases List.mem_cons.mp h with e | h
  ·cases e
   rw [bindC_out hn.1,if_neg (by rw [hk];decide)];simp
  ·exact ih hn.2 h
theorem cellsFrom_has {x:Str} {names:List (Str×NameKind)} {k:Nat} {acc:List (Str×Addr)} (h:(x,NameKind.cell)∈names∨(acc.lookup x).isSome=true):((cellsFrom k names acc).lookup x).isSome=true:=by
 induction names generalizing k acc with
 | nil=>exact h.elim (fun h=>nomatch h) id
 | cons p r ih=>
  obtain ⟨y,kd⟩:=p
  unfold cellsFrom
  by_cases hk:kd=.cell
  ·rw [if_pos (by simpa using hk)]
   refine ih ?_
   by_cases hy:x=y
   ·right;rw [hy,List.lookup_cons_self];rfl
   ·rcases h with h | h
    ·exact (List.mem_cons.mp h).elim (fun e=>(hy (congrArg Prod.fst e)).elim) .inl
    ·right
     rw [List.lookup_cons,show (x==y)=false from beq_false_of_ne hy]
     exact h
  ·rw [if_neg (by simpa using hk)]
   refine ih ?_
   rcases h with h | h
   ·exact (List.mem_cons.mp h).elim (fun e=>(hk (congrArg Prod.snd e).symm).elim) .inl
   ·exact .inr h
structure FnFacts (w:World) (fa:Addr) (fd:FuncData) (body:List Stmt):Prop where
 at_:(KK w.params).lookup fa=some ⟨.type "function",none,.func fd,#[]⟩
 body:fd.body=.stmts body
 clo:fd.closure=[]
 code:(codes.any fun x=>decide (fd.code=.ref x.1)&&decide (x.2.1=fd.qualname))=true
 co:fd.scope.isCoroutine=false
 gen:fd.scope.isGenerator=false
 kind:fd.scope.kind=.function
theorem codeAny_fn {fa:Addr} {fd:FuncData} {body:List Stmt} (ff:FnFacts w fa fd body) {vs:List Value} {binds:List (Str×Value)} {G:Fz} {s:Shared} {ρ₀:Rho} {A:Around} {R:Result→Shared→Prop}
  (hbind:bindArgs fd ⟨vs,[]⟩=pure binds) (hnd:(binds.map (·.1)).Nodup) (hkind:∀ x∈binds.map (·.1),fd.scope.names.lookup x=some .local∨fd.scope.names.lookup x=some .cell)
  (i:Inn G s.heap) (b:Bs w G) (hd:A.depth < recursionLimit)
  (hρ:∀ q∈ρ₀,match q.1 with | some x=>∃ v,(x,v)∈binds∧q.2.p v G s.heap | none=>q.2.p .none G s.heap)
  (hfps:∀ q∈ρ₀,∀ a∈q.2.fp,s.heap.get? a≠none) (hows:∀ q∈ρ₀,∀ a∈q.2.ow,a∈q.2.fp∧G a=none∧a∈N) (hsep:ρ₀.Pairwise Sep)
  (h:∀ env s₁,env=callEnvC fd s.heap.objs.size fa→St w env G s N ρ₀ G s₁→
   wpAny (model pw w) (A.deeper env) (execs body env) (fun f s'=>R (.ok (.ret (match f with | .ret v=>v | _=>.none))) s')
    (fun e s'=>wpAny (model pw w) (A.deeper env) (leaving env e) (fun _ s''=>R (.error e) s'') (fun e' s''=>R (.error e') s'') s') s₁) :
  codeAny (model pw w) A (.call (.ref fa) ⟨vs,[]⟩) R s:=by
 have hf:=b _ i
 obtain ⟨⟨c,qn,t⟩,hc1,hc2⟩:=List.any_eq_true.mp ff.code
 simp only [Bool.and_eq_true,decide_eq_true_eq] at hc2
 refine codeAny_call_cells (fd:=fd) (body:=body) (binds:=binds) hd (hf.K _ _ ff.at_) rfl hf.nolimit (by have:=hf.codes _ hc1;rw [hc2.1,← hc2.2];exact this) ff.body hbind ff.clo (fun x hx=>?_) (fun s₁ x=>?_) ff.co ff.gen ff.kind
 ·rcases hkind x.1 (List.mem_map.mpr ⟨x,hx,rfl⟩) with h | h
  ·exact .inl h
  ·exact .inr ⟨h,cellsFrom_has (.inl (mem_of_lookup h))⟩
 ·have hk:Keeps s s₁:=x.done
  have hL:(callEnvC fd s.heap.objs.size fa).locals=s.heap.objs.size:=rfl
  have g0:∀ a,s.heap.get? a=none→G a=none:=fun a e=>by
   cases q:G a with
   | none=>rfl
   | some o=>have:=i _ _ q;rw [e] at this;cases this
  have cnew:∀ y cc,(callEnvC fd s.heap.objs.size fa).cells.lookup y=some cc→s.heap.get? cc=none:=fun y cc hm=>
   Heap.get?_none_of_le (Nat.le_of_lt (x.above y cc (mem_of_lookup hm)))
  obtain ⟨h',tk,rfl,hkk⟩:=hk
  refine h _ _ rfl {step:=Step.of_keeps i ⟨h',tk,rfl,hkk⟩,base:=b,fr:=⟨_,x.toInCall.ns⟩,newL:=?_,GL:=?_,cell:=fun y cc hm=>⟨⟨_,x.cell y cc hm⟩,g0 _ (cnew y cc hm)⟩,apart:=x.apart,cnew:=fun _=>cnew,vars:=?_,fps:=?_,ows:=?_,sep:=hsep}
  ·exact fresh_size _
  ·exact g0 _ (fresh_size _)
  ·intro q hq
   have hq':=hρ q hq
   obtain ⟨nm,K⟩:=q
   have hst:∀ {u:Value},K.p u G s.heap→K.p u G h':=fun hu=>K.st Le.rfl (fun b _ o e=>hkk b o e) hu
   cases nm with
   | none=>exact hst hq'
   | some y=>
    obtain ⟨v,hv,hp⟩:=hq'
    refine ⟨v,?_,hst hp⟩
    have hki:(callEnvC fd s.heap.objs.size fa).kindOf y=fd.scope.names.lookup y:=rfl
    rcases hkind y (List.mem_map.mpr ⟨_,hv,rfl⟩) with h | h
    ·exact .inl ⟨h,_,x.toInCall.ns,bindL_mem h hnd hv⟩
    ·obtain ⟨cc,hcc⟩:=Option.isSome_iff_exists.mp (cellsFrom_has (k:=s.heap.objs.size+1) (acc:=[]) (.inl (mem_of_lookup h)))
     exact .inr ⟨.inl h,cc,hcc,by have:=x.cell y cc hcc;rw [bindC_mem h hnd hv] at this;exact this⟩
  ·intro q hq a ha
   have h1:=hfps q hq a ha
   refine ⟨?_,fun e=>h1 (by rw [e];exact fresh_size _),fun y cc hm e=>h1 (by rw [e];exact cnew y cc hm)⟩
   obtain ⟨o,ho⟩:=Option.ne_none_iff_exists'.mp h1
   show h'.get? a≠none
   rw [hkk _ _ ho];exact fun h=>nomatch h
  ·intro q hq a ha
   obtain ⟨h1,h2,h3⟩:=hows q hq a ha
   exact ⟨h1,h2,.inl h3⟩
theorem op_fn {fa:Addr} {fd:FuncData} {body:List Stmt} (ff:FnFacts w fa fd body) {vs:List Value} {binds:List (Str×Value)} {G:Fz} {s:Shared} {ρ₀:Rho} {K:Value→Fz→Shared→Prop}
  (hbind:bindArgs fd ⟨vs,[]⟩=pure binds) (hnd:(binds.map (·.1)).Nodup) (hkind:∀ x∈binds.map (·.1),fd.scope.names.lookup x=some .local∨fd.scope.names.lookup x=some .cell)
  (i:Inn G s.heap) (b:Bs w G)
  (hρ:∀ q∈ρ₀,match q.1 with | some x=>∃ v,(x,v)∈binds∧q.2.p v G s.heap | none=>q.2.p .none G s.heap)
  (hfps:∀ q∈ρ₀,∀ a∈q.2.fp,s.heap.get? a≠none) (hows:∀ q∈ρ₀,∀ a∈q.2.ow,a∈q.2.fp∧G a=none∧a∈N) (hsep:ρ₀.Pairwise Sep)
  (h:∀ env A s₁ (Q:Flow→Shared→Prop) (E:Value→Shared→Prop),env=callEnvC fd s.heap.objs.size fa→AOK n A→St w env G s N ρ₀ G s₁→(∀ f G' s',Step G s N G' s'→K (match f with | .ret v=>v | _=>.none) G' s'→Q f s')→
   wpAny (model pw w) A (execs body env) Q E s₁):Op w (n+1) N G s (call (.ref fa) vs) K:=fun A Q E a k=>
 wpAny_call (codeAny_fn ff hbind hnd hkind i b (by have:=a.1;show A.depth < 1000;omega) hρ hfps hows hsep fun env s₁ he c=>
  h env (A.deeper env) s₁ _ _ he ⟨by have:=a.1;show A.depth+1+n≤900;omega,by have:=a.2.1;show A.units+3+8 * n≤9000;omega,a.2.2⟩ c fun f G' s' y q=>k _ G' s' y q)
noncomputable def rhoOf (P:Params):List Str→List D→Rho
 | x::xs,d::ds=>(some x,dat P d)::rhoOf P xs ds
 | _,_=>[]
theorem rhoOf_mem {P:Params} {G:Fz} {xs:List Str} {ds:List D} {vs:List Value} (h:RepL P G vs ds):∀ q∈rhoOf P xs ds,∃ x d v,q=(some x,dat P d)∧(x,v)∈xs.zip vs∧Rep P G v d:=by
 induction xs generalizing ds vs with
 | nil=>exact fun q h=>nomatch h
 | cons x xs ih=>
  cases ds with
  | nil=>exact fun q h=>nomatch h
  | cons d ds=>
   obtain ⟨v,l,rfl,a,r⟩:=h.inv
   intro q h
   rcases List.mem_cons.mp h with e | h
   ·subst e;exact ⟨x,d,v,rfl,.head _,a⟩
   ·obtain ⟨y,d',v',h1,h2,h3⟩:=ih r q h
    exact ⟨y,d',v',h1,.tail _ h2,h3⟩
theorem rhoOf_names {P:Params} {xs:List Str} {ds:List D}:∀ q∈rhoOf P xs ds,∃ x∈xs,q.1=some x:=by
 induction xs generalizing ds with
 | nil=>exact fun q h=>nomatch h
 | cons x xs ih=>
  cases ds with
  | nil=>exact fun q h=>nomatch h
  | cons d ds=>
   intro q h
   rcases List.mem_cons.mp h with e | h
   ·subst e;exact ⟨x,.head _,rfl⟩
   ·exact (ih q h).elim fun y h=>⟨y,.tail _ h.1,h.2⟩
theorem rhoOf_sep {P:Params} {xs:List Str} {ds:List D} (h:xs.Nodup):(rhoOf P xs ds).Pairwise Sep:=by
 induction xs generalizing ds with
 | nil=>exact .nil
 | cons x xs ih=>
  cases ds with
  | nil=>exact .nil
  | cons d ds=>
   have h:=List.nodup_cons.mp h
   refine List.pairwise_cons.mpr ⟨fun q hq=>⟨.inr fun e=>?_,(fun _ h=>nomatch h),fun _ _ h=>nomatch h⟩,ih h.2⟩
   obtain ⟨y,hy,e2⟩:=rhoOf_names q hq
   have e3:some x=q.1:=e
   rw [e2] at e3
   exact h.1 (Option.some.inj e3▸hy)
theorem op_dat {fa:Addr} {fd:FuncData} {body:List Stmt} (ff:FnFacts w fa fd body) {vs:List Value} {ds:List D} {G:Fz} {s:Shared} {K:Value→Fz→Shared→Prop} (xs:List Str)
  (hbind:∀ vs,vs.length=xs.length→bindArgs fd ⟨vs,[]⟩=pure (xs.zip vs)) (hnd:xs.Nodup) (hkind:∀ x∈xs,fd.scope.names.lookup x=some .local∨fd.scope.names.lookup x=some .cell)
  (i:Inn G s.heap) (b:Bs w G) (r:RepL w.params G vs ds) (hl:ds.length=xs.length)
  (h:∀ env A s₁ (Q:Flow→Shared→Prop) (E:Value→Shared→Prop),env=callEnvC fd s.heap.objs.size fa→AOK n A→St w env G s [] (rhoOf w.params xs ds) G s₁→(∀ f G' s',Step G s [] G' s'→K (match f with | .ret v=>v | _=>.none) G' s'→Q f s')→
   wpAny (model pw w) A (execs body env) Q E s₁):Op w (n+1) [] G s (call (.ref fa) vs) K:=by
 have hvl:vs.length=xs.length:=r.length.trans hl
 have hz:(xs.zip vs).map (·.1)=xs:=by rw [List.map_fst_zip];omega
 refine op_fn ff (hbind vs hvl) (by rw [hz];exact hnd) (by rw [hz];exact hkind) i b (fun q hq=>?_) (fun q hq=>?_) (fun q hq=>?_) (rhoOf_sep hnd) h
 ·obtain ⟨x,d,v,rfl,h1,h2⟩:=rhoOf_mem r q hq;exact ⟨v,h1,h2⟩
 ·obtain ⟨x,d,v,rfl,h1,h2⟩:=rhoOf_mem r q hq;exact fun _ h=>nomatch h
 ·obtain ⟨x,d,v,rfl,h1,h2⟩:=rhoOf_mem r q hq;exact fun _ h=>nomatch h
theorem noN {M:List Addr}:∀ a∈([]:List Addr),a∈M:=fun _ h=>nomatch h
theorem len_succ {α:Type} {vs:List α} {n:Nat} (h:vs.length=n+1):∃ v vs',vs=v::vs'∧vs'.length=n:=by
 cases vs with
 | nil=>cases h
 | cons v vs=>exact ⟨v,vs,rfl,Nat.succ.inj h⟩
theorem bind1 {fd:FuncData} {x:Str} (h:∀ v,bindArgs fd ⟨[v],[]⟩=pure [(x,v)]) (vs:List Value) (hl:vs.length=[x].length):bindArgs fd ⟨vs,[]⟩=pure ([x].zip vs):=by
 obtain ⟨v,l,rfl,h1⟩:=len_succ (n:=0) hl
 obtain rfl:=List.length_eq_zero_iff.mp h1
 exact h v
theorem bind2 {fd:FuncData} {x y:Str} (h:∀ u v,bindArgs fd ⟨[u,v],[]⟩=pure [(x,u),(y,v)]) (vs:List Value) (hl:vs.length=[x,y].length):bindArgs fd ⟨vs,[]⟩=pure ([x,y].zip vs):=by
 obtain ⟨u,l,rfl,h1⟩:=len_succ (n:=1) hl
 obtain ⟨v,l,rfl,h2⟩:=len_succ (n:=0) h1
 obtain rfl:=List.length_eq_zero_iff.mp h2
 exact h u v
theorem bind4 {fd:FuncData} {x y z t:Str} (h:∀ a b c d,bindArgs fd ⟨[a,b,c,d],[]⟩=pure [(x,a),(y,b),(z,c),(t,d)]) (vs:List Value) (hl:vs.length=[x,y,z,t].length):bindArgs fd ⟨vs,[]⟩=pure ([x,y,z,t].zip vs):=by
 obtain ⟨a,l,rfl,h1⟩:=len_succ (n:=3) hl
 obtain ⟨b,l,rfl,h2⟩:=len_succ (n:=2) h1
 obtain ⟨c,l,rfl,h3⟩:=len_succ (n:=1) h2
 obtain ⟨d,l,rfl,h4⟩:=len_succ (n:=0) h3
 obtain rfl:=List.length_eq_zero_iff.mp h4
 exact h a b c d
theorem evk_call {x:Str} {np pos:Pos} {args:List PySem.Expr} {fa:Addr} {fd:FuncData} {body:List Stmt} {ts:List (Bool×Sem Value)} {PA:List D→Prop} {K:Shared→Value→Fz→Shared→Prop} (ff:FnFacts w fa fd body)
  (hf:EvV w env n N ρ (.Name x np) (.ref fa)) (ha:Trs w env n N ρ ts PA) (ht:backTo pos (starEach args env)=ts) (hts:∃ e r,ts=(false,e)::r)
  (he:∀ s0 s v G' s',K s v G' s'→(∀ a,s0.heap.get? a≠none→s.heap.get? a≠none)→K s0 v G' s')
  (hop:∀ G s vs ds,Inn G s.heap→Bs w G→RepL w.params G vs ds→PA ds→Op w n [] G s (call (.ref fa) vs) (K s)):EvK w env n N ρ (.Call (.Name x np) args [] pos) K:=fun A G₀ s₀ M G s Q E a b c k=>by
 refine wpAny_Call_ofName (hf A G₀ s₀ M G s _ E a b c fun v G1 s1 y1 z1 e=>?_)
 subst e
 obtain ⟨e0,r0,rfl⟩:=hts
 rw [ht]
 refine callWith_function_kw (Calls.evalArgs_plain (ha A G₀ s₀ M G1 s1 _ E a b z1 fun vs G2 s2 ds y2 z2 r p hl=>⟨⟨z2.bs.K _ _ ff.at_,rfl⟩,?_⟩))
 have y:=y1.trans y2 fun q hq=>.inl hq
 exact hop G2 s2 vs ds z2.step.inn z2.HFG r p A _ _ a fun v G3 s3 y3 q=>k v G3 s3 (y.trans y3 fun _ h=>nomatch h) (z2.pure y3) (he _ _ _ _ _ q y.dom)
theorem evk_blt1 {x:Str} {np pos:Pos} {e:PySem.Expr} {id:String} {K1:Value→Fz→Shared→Prop} {K:Shared→Value→Fz→Shared→Prop}
  (hf:EvV w env n N ρ (.Name x np) (.builtin id)) (ha:EvK w env n N ρ e (fun _=>K1)) (ht:backTo pos (starEach [e] env)=[(false,eval e env)]:=by rfl)
  (he:∀ s0 s v G' s',K s v G' s'→(∀ a,s0.heap.get? a≠none→s.heap.get? a≠none)→K s0 v G' s')
  (hop:∀ G s v,Inn G s.heap→Bs w G→K1 v G s→Op w n [] G s (call (.builtin id) [v]) (K s)):EvK w env n N ρ (.Call (.Name x np) [e] [] pos) K:=fun A G₀ s₀ M G s Q E a b c k=>by
 refine wpAny_Call_ofName (hf A G₀ s₀ M G s _ E a b c fun v G1 s1 y1 z1 e=>?_)
 subst e
 rw [ht]
 refine PySem.callWith_builtin1 (ha A G₀ s₀ M G1 s1 _ E a b z1 fun v G2 s2 y2 z2 q2=>?_)
 have y:=y1.trans y2 fun q hq=>.inl hq
 exact hop G2 s2 v z2.step.inn z2.HFG q2 A _ _ a fun v G3 s3 y3 q=>k v G3 s3 (y.trans y3 fun _ h=>nomatch h) (z2.pure y3) (he _ _ _ _ _ q y.dom)
end Mine
end
section
namespace Mine
variable {w:World} {env:Env} {n:Nat} {N:List Addr} {ρ:Rho}
theorem Step.lose {G G':Fz} {s s1:Shared} {I:Addr} {h':Heap} (x:Step G s N G' s1) (hI:s.heap.get? I=none) (hG:G' I=none) (hk:∀ b o,b≠I→s1.heap.get? b=some o→h'.get? b=some o) (tk:Nat) :
  Step G s N G' {s1 with heap:=h',toks:=tk} where
 same:=by obtain ⟨h,t,rfl⟩:=x.same;exact ⟨h',tk,rfl⟩
 le:=x.le
 inn:=fun a o e=>hk a o (fun q=>by rw [q,hG] at e;cases e) (x.inn a o e)
 new:=x.new
 keep:=fun a o ha e=>hk a o (fun q=>by rw [q,hI] at e;cases e) (x.keep a o ha e)
 dom:=fun a e=>by
  obtain ⟨o,ho⟩:=Option.ne_none_iff_exists'.mp (x.dom a e)
  show h'.get? a≠none
  rw [hk a o (fun q=>e (q▸hI)) ho];exact (fun h=>(nomatch h))
theorem St.lose {G₀ G:Fz} {s₀ s:Shared} {M:List Addr} {K:Kd} {I:Addr} {h':Heap} (c:St w env G₀ s₀ M ((none,K)::ρ) G s) (hI:s₀.heap.get? I=none) (ho:I∈K.ow)
  (hk:∀ b o,b≠I→s.heap.get? b=some o→h'.get? b=some o) (tk:Nat):St w env G₀ s₀ M ρ G {s with heap:=h',toks:=tk}:=by
 obtain ⟨o1,o2,o3⟩:=c.ows _ (.head _) I ho
 obtain ⟨f1,f2,f3⟩:=c.fps _ (.head _) I o1
 obtain ⟨sp,sr⟩:=List.pairwise_cons.mp c.sep
 have nfp:∀ q∈ρ,I∉q.2.fp:=fun q hq=>(sp q hq).2.1 I ho
 exact {
  step:=c.step.lose hI o2 hk tk
  base:=c.base
  fr:=by obtain ⟨m,o,es,ep,e,r⟩:=c.fr;exact ⟨m,o,es,ep,hk _ _ (fun q=>f2 q.symm) e,r⟩
  newL:=c.newL
  GL:=c.GL
  cell:=fun y cc hm=>⟨by obtain ⟨⟨v,o,e,r⟩,_⟩:=c.cell y cc hm;exact ⟨v,o,hk _ _ (fun q=>f3 y cc hm q.symm) e,r⟩,(c.cell y cc hm).2⟩
  apart:=c.apart
  cnew:=c.cnew
  vars:=fun q hq=>(c.vars q (.tail _ hq)).next Le.rfl (fun o e=>hk _ _ (fun q=>f2 q.symm) e) (fun y cc hm o e=>hk _ _ (fun q=>f3 y cc hm q.symm) e) fun a ha o e=>hk _ _ (fun e'=>nfp q hq (e'▸ha)) e
  fps:=fun q hq a ha=>let ⟨h1,h2,h3⟩:=c.fps q (.tail _ hq) a ha;⟨by
   obtain ⟨o,ho⟩:=Option.ne_none_iff_exists'.mp h1
   show h'.get? a≠none
   rw [hk a o (fun e'=>nfp q hq (e'▸ha)) ho];exact (fun h=>(nomatch h)),h2,h3⟩
  ows:=fun q hq=>c.ows q (.tail _ hq)
  sep:=sr}
theorem St.addF {G₀ G:Fz} {s₀ s:Shared} {M:List Addr} (c:St w env G₀ s₀ M ρ G s) {K:Kd} (hp:K.p .none G s.heap) (hf:∀ a∈K.fp,s.heap.get? a≠none∧a≠env.locals∧∀ y c,env.cells.lookup y=some c→a≠c)
  (ho:∀ a∈K.ow,a∈K.fp∧G a=none∧(a∈M∨s₀.heap.get? a=none)) (hs:∀ q∈ρ,(∀ a∈K.ow,a∉q.2.fp)∧(∀ a∈q.2.ow,a∉K.fp)):St w env G₀ s₀ M ((none,K)::ρ) G s:=
 {c with
  vars:=fun q hq=>by rcases List.mem_cons.mp hq with e | hq;subst e;exact hp;exact c.vars q hq
  fps:=fun q hq=>by rcases List.mem_cons.mp hq with e | hq;subst e;exact hf;exact c.fps q hq
  ows:=fun q hq=>by rcases List.mem_cons.mp hq with e | hq;subst e;exact ho;exact c.ows q hq
  sep:=List.pairwise_cons.mpr ⟨fun q hq=>⟨.inl rfl,hs q hq⟩,c.sep⟩}
theorem St.tail {G₀ G:Fz} {s₀ s:Shared} {M:List Addr} {q:Option Str×Kd} (c:St w env G₀ s₀ M (q::ρ) G s):St w env G₀ s₀ M ρ G s:=c.sub (List.sublist_cons_self _ _)
theorem St.kind {G₀ G:Fz} {s₀ s:Shared} {M:List Addr} {x:Option Str} {K K':Kd} (c:St w env G₀ s₀ M ((x,K)::ρ) G s) (hp:∀ v,K.p v G s.heap→K'.p v G s.heap) (hf:∀ a∈K'.fp,a∈K.fp) (ho:∀ a∈K'.ow,a∈K.ow∧a∈K'.fp) :
  St w env G₀ s₀ M ((x,K')::ρ) G s:=
 {c with
  vars:=fun q hq=>by
   rcases List.mem_cons.mp hq with e | hq
   ·subst e
    have:=c.vars _ (.head _)
    cases x with
    | none=>exact hp _ this
    | some y=>obtain ⟨v,a,b⟩:=this;exact ⟨v,a,hp _ b⟩
   ·exact c.vars q (.tail _ hq)
  fps:=fun q hq a ha=>by
   rcases List.mem_cons.mp hq with e | hq
   ·subst e;exact c.fps _ (.head _) a (hf a ha)
   ·exact c.fps q (.tail _ hq) a ha
  ows:=fun q hq a ha=>by
   rcases List.mem_cons.mp hq with e | hq
   ·subst e;obtain ⟨h1,h2⟩:=ho a ha;obtain ⟨_,h3⟩:=c.ows _ (.head _) a h1;exact ⟨h2,h3⟩
   ·exact c.ows q (.tail _ hq) a ha
  sep:=by
   obtain ⟨h1,h2⟩:=List.pairwise_cons.mp c.sep
   exact List.pairwise_cons.mpr ⟨fun q hq=>⟨(h1 q hq).1,fun a ha=>(h1 q hq).2.1 a (ho a ha).1,fun a ha hm=>(h1 q hq).2.2 a ha (hf a hm)⟩,h2⟩}
noncomputable def plainIt (v:Value):Prop:=v=.type "list_iterator"∨v=.type "tuple_iterator"∨v=.type "range_iterator"
theorem letGo_plain {A:Around} {target:PySem.Expr} {I:Addr} {v:Value} {s:Shared} {Q:Unit→Shared→Prop} {E:Value→Shared→Prop} (h:∃ o,s.heap.get? I=some o∧plainIt o.cls) (q:Q () s):wpAny (model pw w) A (letOwnedTupleGo target (.ref I) v) Q E s:=by
 obtain ⟨⟨c,d,dt,sl⟩,ho,hc⟩:=h
 have go:∀ a:Addr,wpAny (model pw w) A (do
   let o←load I
   match o.cls,o.data with
   | .type n,.fields vs=>
    if ["enumerate","zip","dict_itemiterator","dict_reverseitemiterator","odict_iterator","itertools.zip_longest","itertools.pairwise"].contains n&&vs[0]? == some (rawInt a) then
     rule "for.unpacks-the-owned-tuple"
     updateField I 0 .none
   | _,_=>pure ()) Q E s:=fun a=>by
  refine wpAny_bind (wpAny_load ho ?_)
  dsimp only at hc ⊢
  rcases hc with rfl | rfl | rfl
  all_goals
   cases dt<;>first
    | exact wpAny_pure q
    | (dsimp only;rw [if_neg (by intro h;simp [List.contains,List.elem] at h)];exact wpAny_pure q)
 unfold letOwnedTupleGo
 cases target<;>first
  | exact wpAny_pure q
  | (cases v<;>first
    | exact wpAny_pure q
    | exact go _)
structure It (w:World) (I:Addr) (ds:List D) (IF:Nat→Kd):Prop where
 ow:∀ i,(IF i).ow=[I]
 fp:∀ i,(IF i).fp=(IF 0).fp
 has:I∈(IF 0).fp
 next:∀ (A:Around) i G (s:Shared) (Q:Option Value→Shared→Prop) (E:Value→Shared→Prop) d,A.handled=none→ds[i]? = some d→(IF i).p .none G s.heap→
  (∀ v h' tk,(IF (i+1)).p .none G h'→Rep w.params G v d→h'.get? I≠none→(∀ b o,b≠I→s.heap.get? b=some o→h'.get? b=some o)→Q (some v) {s with heap:=h',toks:=tk})→wpAny (model pw w) A (pyNext (.ref I)) Q E s
 pl:∀ i G h,(IF i).p .none G h→∃ o,h.get? I=some o∧plainIt o.cls
 done:∀ (A:Around) G (s:Shared) (Q:Option Value→Shared→Prop) (E:Value→Shared→Prop),A.handled=none→(IF ds.length).p .none G s.heap→
  (∀ h' tk,(∀ b o,b≠I→s.heap.get? b=some o→h'.get? b=some o)→Q none {s with heap:=h',toks:=tk})→wpAny (model pw w) A (pyNext (.ref I)) Q E s
 self:∀ (A:Around) G (s:Shared) (Q:Value→Shared→Prop) (E:Value→Shared→Prop),A.handled=none→(IF 0).p .none G s.heap→Q (.ref I) s→wpAny (model pw w) A (pyIter (.ref I)) Q E s
noncomputable def itK (Wst:Nat→Heap→Prop) (fp:List Addr) (I:Addr) (G1:Fz) (hf:∀ i h h',Wst i h→(∀ b∈fp,∀ o,h.get? b=some o→h'.get? b=some o)→Wst i h') (i:Nat):Kd:=
 ⟨fun _ G h=>Wst i h∧Le G1 G,fp,[I],fun hl he ⟨a,b⟩=>⟨hf i _ _ a he,b.trans hl⟩⟩
theorem It.of_walks {I:Addr} {fp:List Addr} {ds:List D} {P:Nat→Value→Prop} {Wst:Nat→Heap→Prop} {G1:Fz} (hI:I∈fp) (W:∀ A:Around,A.handled=none→Walks pw w A I fp [I] ds.length P Wst)
  (hP:∀ i v d,P i v→ds[i]? = some d→Rep w.params G1 v d) (hex:∀ i h,Wst i h→∃ o,h.get? I=some o∧plainIt o.cls) (hf:∀ i h h',Wst i h→(∀ b∈fp,∀ o,h.get? b=some o→h'.get? b=some o)→Wst i h'):It w I ds (itK Wst fp I G1 hf) where
 ow:=fun _=>rfl
 fp:=fun _=>rfl
 has:=hI
 next:=fun A i G s Q E d hh hd ⟨h1,h2⟩ k=>(W A hh).item i s Q E ((List.getElem?_eq_some_iff.mp hd).1) h1 fun v h' tk hp hst hk=>
  k v h' tk ⟨hst,h2⟩ ((hP i v d hp hd).mono h2) (by obtain ⟨o,e,_⟩:=hex _ _ hst;rw [e];exact (fun h=>(nomatch h))) fun b o hb e=>hk b o (fun q=>hb (List.mem_singleton.mp q)) e
 pl:=fun i G h ⟨h1,_⟩=>hex i h h1
 done:=fun A G s Q E hh ⟨h1,_⟩ k=>(W A hh).done s Q E h1 fun h' tk hk=>k h' tk fun b o hb e=>hk b o (fun q=>hb (List.mem_singleton.mp q)) e
 self:=fun A G s Q E hh ⟨h1,_⟩ k=>(W A hh).self 0 s Q E h1 k
noncomputable def Ite (w:World) (env:Env) (n:Nat) (N:List Addr) (ρ:Rho) (e:PySem.Expr) (P:List D→Prop):Prop:=
 ∀ (A:Around) (G₀:Fz) (s₀:Shared) (M:List Addr) (G:Fz) (s:Shared) (Q:Value→Shared→Prop) (E:Value→Shared→Prop),AOK n A→(∀ a∈N,a∈M)→St w env G₀ s₀ M ρ G s→
  (∀ I ds IF G' s',It w I ds IF→P ds→s.heap.get? I=none→Step G s N G' s'→St w env G₀ s₀ M ((none,IF 0)::ρ) G' s'→Q (.ref I) s')→
  wpAny (model pw w) A (eval e env) (fun v s1=>wpAny (model pw w) A (pyIter v) Q E s1) E s
theorem St.iter {G₀ G:Fz} {s₀ s:Shared} {M:List Addr} (c:St w env G₀ s₀ M ρ G s) (o:Obj) (hfree:o.isFreed=false) {K:Kd} (hK:K.p .none G (s.heap.push o)) (how:K.ow=[s.heap.objs.size]) (hfp:∀ a∈K.fp,a=s.heap.objs.size∨(s.heap.get? a≠none∧(∀ q∈ρ,a∉q.2.ow)∧a≠env.locals∧∀ y c,env.cells.lookup y=some c→a≠c))
  (hin:s.heap.objs.size∈K.fp):St w env G₀ s₀ M ((none,K)::ρ) G {s with heap:=s.heap.push o}∧Step G s [] G {s with heap:=s.heap.push o}:=by
 have y:=Step.push (N:=[]) c.step.inn o s.toks
 have c':=c.pure y
 have ne:∀ b,s.heap.get? b≠none→s.heap.objs.size≠b:=fun b hb e=>hb (e▸fresh_size _)
 refine ⟨c'.addF hK (fun a ha=>?_) (fun a ha=>?_) (fun q hq=>⟨fun a ha hm=>?_,fun a ha hm=>?_⟩),y⟩
 ·rcases hfp a ha with e | ⟨h1,_,h3,h4⟩
  ·subst e
   refine ⟨?_,ne _ c.frL,fun yy cc hm=>ne _ (c.frC hm)⟩
   show (s.heap.push o).get? _≠none
   rw [Heap.get?_push_size _ hfree];exact (fun h=>(nomatch h))
  ·exact ⟨y.dom a h1,h3,h4⟩
 ·rw [how] at ha
  have:=List.mem_singleton.mp ha
  subst this
  refine ⟨hin,?_,.inr (Classical.byContradiction fun q=>c.step.dom _ q (fresh_size _))⟩
  cases q:G s.heap.objs.size with
  | none=>rfl
  | some o'=>have:=c.step.inn _ _ q;rw [fresh_size] at this;cases this
 ·rw [how] at ha
  have:=List.mem_singleton.mp ha
  subst this
  exact (c.fps q hq _ hm).1 (fresh_size _)
 ·rcases hfp a hm with e | ⟨_,h2,_⟩
  ·subst e;exact (c.fps q hq _ (c.ows q hq _ ha).1).1 (fresh_size _)
  ·exact h2 q hq ha
theorem St.notOw {G₀ G:Fz} {s₀ s:Shared} {M:List Addr} (c:St w env G₀ s₀ M ρ G s) {a:Addr} {o:Obj} (h:G a=some o):(∀ q∈ρ,a∉q.2.ow)∧a≠env.locals∧∀ y cc,env.cells.lookup y=some cc→a≠cc:=
 ⟨(fun q hq ha=>by have:=(c.ows q hq a ha).2.1;rw [h] at this;cases this),(fun e=>by have:=c.GL;rw [← e,h] at this;cases this),(fun y cc hm e=>by have:=(c.cell y cc hm).2;rw [← e,h] at this;cases this)⟩
theorem ite_lst {e:PySem.Expr} {P:List D→Prop} {P':D→Prop} (he:Ev w env n N ρ e P') (h:∀ d,P' d→∃ l,d=.lst l∧P l):Ite w env n N ρ e P:=fun A G₀ s₀ M G s Q E a b c k=>
 he A G₀ s₀ M G s _ E a b c fun v G1 s1 y1 z1 ⟨d,r,p⟩=>by
  obtain ⟨l,rfl,hp⟩:=h d p
  replace r:=r.inv;obtain ⟨ad,vs,m,rfl,hg,r⟩:=r
  ·
   have hg':=z1.step.inn _ _ hg
   have hlen:=r.arr
   have hl:s1.heap.IsList ad vs:=⟨_,hg',rfl,m,rfl⟩
   refine wpAny_pyIter_list hl ?_
   have hf:∀ i (h h':Heap),(h.IsListIter s1.heap.objs.size ad i∧h.IsList ad vs)→(∀ b∈[s1.heap.objs.size,ad],∀ o,h.get? b=some o→h'.get? b=some o)→h'.IsListIter s1.heap.objs.size ad i∧h'.IsList ad vs:=
    fun _ _ _ st hk=>⟨st.1.at fun o e=>hk _ (by simp) o e,st.2.at fun o e=>hk ad (by simp) o e⟩
   have it:It w s1.heap.objs.size l (itK _ [s1.heap.objs.size,ad] s1.heap.objs.size G1 hf):=It.of_walks (P:=fun i v=>vs[i]? = some v) (by simp) (fun A hh=>by
     have:=Walks.list (prog:=pw) (w:=w) hh s1.heap.objs.size ad (fun q=>by rw [q,fresh_size] at hg';cases hg') vs
     rw [hlen] at this;exact this) (fun i v d hv hd=>by
     obtain ⟨v',h1,h2⟩:=r.get hd
     rw [show vs.toList[i]? = vs[i]? by simp,hv] at h1;cases h1;exact h2) (fun i h hst=>by obtain ⟨⟨o,e,hc,_⟩,_⟩:=hst;exact ⟨o,e,.inl hc⟩) hf
   obtain ⟨q1,q2,q3⟩:=z1.notOw hg
   obtain ⟨c2,y2⟩:=z1.iter {cls:=.type "list_iterator",data:=.fields #[.ref ad,.int 0 0]} rfl (K:=itK _ [s1.heap.objs.size,ad] s1.heap.objs.size G1 hf 0)
    ⟨⟨⟨_,Heap.get?_push_size _ rfl,rfl,rfl⟩,hl.at fun o e=>Heap.get?_push_of_some _ e⟩,Le.rfl⟩ rfl (fun b hb=>by
     rcases List.mem_cons.mp hb with e | hb
     ·exact .inl e
     ·have:=List.mem_singleton.mp hb;subst this
      exact .inr ⟨by rw [hg'];exact (fun h=>(nomatch h)),q1,q2,q3⟩) (by show _∈[_,_];simp)
   exact k _ l _ _ _ it hp (Classical.byContradiction fun q=>y1.dom _ q (fresh_size _)) (y1.trans y2 fun _ h=>nomatch h) c2
theorem ite_tup {e:PySem.Expr} {P:List D→Prop} {P':D→Prop} (he:Ev w env n N ρ e P') (h:∀ d,P' d→∃ l,d=.tup l∧P l):Ite w env n N ρ e P:=fun A G₀ s₀ M G s Q E a b c k=>
 he A G₀ s₀ M G s _ E a b c fun v G1 s1 y1 z1 ⟨d,r,p⟩=>by
  obtain ⟨l,rfl,hp⟩:=h d p
  replace r:=r.inv;obtain ⟨ad,vs,m,rfl,hg,r⟩:=r
  ·
   have hg':=z1.step.inn _ _ hg
   have hlen:=r.arr
   have hl:s1.heap.IsTuple ad vs:=⟨_,hg',rfl,m,rfl⟩
   refine wpAny_pyIter_tuple hl ?_
   have hf:∀ i (h h':Heap),(h.IsTupleIter s1.heap.objs.size ad i∧h.IsTuple ad vs)→(∀ b∈[s1.heap.objs.size,ad],∀ o,h.get? b=some o→h'.get? b=some o)→h'.IsTupleIter s1.heap.objs.size ad i∧h'.IsTuple ad vs:=
    fun _ _ _ st hk=>⟨st.1.at fun o e=>hk _ (by simp) o e,st.2.at fun o e=>hk ad (by simp) o e⟩
   have it:It w s1.heap.objs.size l (itK _ [s1.heap.objs.size,ad] s1.heap.objs.size G1 hf):=It.of_walks (P:=fun i v=>vs[i]? = some v) (by simp) (fun A hh=>by
     have:=Walks.tuple (prog:=pw) (w:=w) hh s1.heap.objs.size ad (fun q=>by rw [q,fresh_size] at hg';cases hg') vs
     rw [hlen] at this;exact this) (fun i v d hv hd=>by
     obtain ⟨v',h1,h2⟩:=r.get hd
     rw [show vs.toList[i]? = vs[i]? by simp,hv] at h1;cases h1;exact h2) (fun i h hst=>by obtain ⟨⟨o,e,hc,_⟩,_⟩:=hst;exact ⟨o,e,.inr (.inl hc)⟩) hf
   obtain ⟨q1,q2,q3⟩:=z1.notOw hg
   obtain ⟨c2,y2⟩:=z1.iter {cls:=.type "tuple_iterator",data:=.fields #[.ref ad,.int 0 0]} rfl (K:=itK _ [s1.heap.objs.size,ad] s1.heap.objs.size G1 hf 0)
    ⟨⟨⟨_,Heap.get?_push_size _ rfl,rfl,rfl⟩,hl.at fun o e=>Heap.get?_push_of_some _ e⟩,Le.rfl⟩ rfl (fun b hb=>by
     rcases List.mem_cons.mp hb with e | hb
     ·exact .inl e
     ·have:=List.mem_singleton.mp hb;subst this
      exact .inr ⟨by rw [hg'];exact (fun h=>(nomatch h)),q1,q2,q3⟩) (by show _∈[_,_];simp)
   exact k _ l _ _ _ it hp (Classical.byContradiction fun q=>y1.dom _ q (fresh_size _)) (y1.trans y2 fun _ h=>nomatch h) c2
end Mine
end
section
namespace Mine
variable {w:World} {env:Env} {n:Nat} {N:List Addr} {ρ:Rho}
theorem ite_range {x:Str} {np pos:Pos} {e:PySem.Expr} {P1:D→Prop} {P:List D→Prop} (hf:EvV w env n N ρ (.Name x np) (.type "range")) (he:Ev w env n N ρ e P1) (ht:backTo pos (starEach [e] env)=[(false,eval e env)])
  (h:∀ d,P1 d→E1 (fun k:Nat=>.int k) d fun k=>k≤1000000∧P ((List.range k).map fun i=>D.int ((i:Nat):Int))):Ite w env n N ρ (.Call (.Name x np) [e] [] pos) P:=fun A G₀ s₀ M G s Q E a b c k=>by
 refine wpAny_Call_ofName (hf A G₀ s₀ M G s _ E a b c fun v G1 s1 y1 z1 e=>?_)
 subst e
 rw [ht]
 refine PySem.callWith_type1 (he A G₀ s₀ M G1 s1 _ E a b z1 fun v G2 s2 y2 z2 ⟨d,r,p⟩=>?_)
 obtain ⟨m,rfl,hm,hp⟩:=h d p
 obtain ⟨tkn,rfl⟩:∃ t,v=.int m t:=by cases r;exact ⟨_,rfl⟩
 refine call_range_1 ?_
 have y:=y1.trans y2 fun q hq=>.inl hq
 have y3:=Step.push (N:=[]) z2.step.inn {cls:=.type "range",data:=.fields #[.int 0 s2.toks,.int m tkn,.int 1 (s2.toks+1)]} (s2.toks+1+1)
 have z3:=z2.pure y3
 have hsm:Builtin.Range.small 0 (m:Int) 1=true:=small_one (by omega) (by omega) (by omega) (by omega)
 refine wpAny_pyIter_range (IsRange.new ..) hsm ?_
 dsimp only
 generalize hs3:({s2 with heap:=s2.heap.push _,toks:=s2.toks+1+1}:Shared)=s3 at y3 z3 ⊢
 have hh3:s3.heap=s2.heap.push {cls:=.type "range",data:=.fields #[.int 0 s2.toks,.int m tkn,.int 1 (s2.toks+1)]}:=by rw [← hs3]
 rw [← hh3]
 have hf':∀ i (h h':Heap),(IsRangeIter h s3.heap.objs.size (0+(i:Nat) * 1) ((m:Int) - (i:Nat)) 1)→(∀ b∈[s3.heap.objs.size],∀ o,h.get? b=some o→h'.get? b=some o)→IsRangeIter h' s3.heap.objs.size (0+(i:Nat) * 1) ((m:Int) - (i:Nat)) 1:=
  fun _ _ _ st hk=>hk _ (by simp) _ st
 have it:It w s3.heap.objs.size ((List.range m).map fun i=>D.int ((i:Nat):Int)) (itK _ [s3.heap.objs.size] s3.heap.objs.size G2 hf'):=It.of_walks (P:=fun i v=>∃ t,v=.int (0+i * 1) t) (by simp) (fun A hh=>by
   have:=Walks.range (prog:=pw) (w:=w) hh s3.heap.objs.size 0 1 m
   rw [show ((List.range m).map fun i=>D.int ((i:Nat):Int)).length=m by simp];exact this) (fun i v d hv hd=>by
   obtain ⟨t,rfl⟩:=hv
   simp only [List.getElem?_map,Option.map_eq_some_iff] at hd
   obtain ⟨j,hj,rfl⟩:=hd
   have:j=i:=by
    have:=List.getElem?_eq_some_iff.mp hj
    obtain ⟨h1,h2⟩:=this;simp at h2;omega
   subst this
   have e:(0+(j:Int) * 1)=j:=by omega
   rw [e];exact .int _ t) (fun i h hst=>⟨_,hst,.inr (.inr rfl)⟩) hf'
 have hsz:Builtin.Range.rangeSize 0 (m:Int) 1=m:=by rw [rangeSize_one];split<;>omega
 rw [hsz]
 obtain ⟨c2,y4⟩:=z3.iter {cls:=.type "range_iterator",data:=.fields #[rawInt 0,rawInt m,rawInt 1]} rfl (K:=itK _ [s3.heap.objs.size] s3.heap.objs.size G2 hf' 0)
  ⟨by show (s3.heap.push _).get? _=_;rw [Heap.get?_push_size _ rfl];simp,Le.rfl⟩ rfl (fun b hb=>.inl (List.mem_singleton.mp hb)) (by show _∈[_];simp)
 have hs3':({heap:=s3.heap.push {cls:=.type "range_iterator",data:=.fields #[rawInt 0,rawInt m,rawInt 1]},gens:=s2.gens,drawn:=s2.drawn,toks:=s2.toks+1+1,os:=s2.os}:Shared) = {s3 with heap:=s3.heap.push {cls:=.type "range_iterator",data:=.fields #[rawInt 0,rawInt m,rawInt 1]}}:=by rw [← hs3]
 rw [hs3']
 have yy:=(y.trans y3 fun _ h=>nomatch h)
 exact k _ _ _ _ _ it hp (Classical.byContradiction fun q=>yy.dom _ q (fresh_size _)) (yy.trans y4 fun _ h=>nomatch h) c2
theorem ite_name {x:Str} {pos:Pos} {K:Kd} {ad:Addr} {ds:List D} {P:List D→Prop} (h:(some x,K)∈ρ) (hK:∀ v G h,K.p v G h→v=.ref ad∧∃ vs m,h.get? ad=some (lstO vs m)∧RepL w.params G vs.toList ds) (hfp:ad∈K.fp)
  (hno:∀ q∈ρ,ad∉q.2.ow) (hp:P ds) (hk:env.scope.kind=.function) (hd:(x==("__debug__" : Str))=false:=by decide) (hc:(x==("__classdict__" : Str))=false:=by decide) :
  Ite w env n N ρ (.Name x pos) P:=fun A G₀ s₀ M G s Q E a b c k=>
 evk_name h hk hd hc A G₀ s₀ M G s _ E a b c fun v G1 s1 y1 z1 hv=>by
  obtain ⟨rfl,vs,m,hg',r⟩:=hK _ _ _ hv
  have hlen:=r.arr
  have hl:s1.heap.IsList ad vs:=⟨_,hg',rfl,m,rfl⟩
  refine wpAny_pyIter_list hl ?_
  have hf:∀ i (h h':Heap),(h.IsListIter s1.heap.objs.size ad i∧h.IsList ad vs)→(∀ b∈[s1.heap.objs.size,ad],∀ o,h.get? b=some o→h'.get? b=some o)→h'.IsListIter s1.heap.objs.size ad i∧h'.IsList ad vs:=
   fun _ _ _ st hk=>⟨st.1.at fun o e=>hk _ (by simp) o e,st.2.at fun o e=>hk ad (by simp) o e⟩
  have it:It w s1.heap.objs.size ds (itK _ [s1.heap.objs.size,ad] s1.heap.objs.size G1 hf):=It.of_walks (P:=fun i v=>vs[i]? = some v) (by simp) (fun A hh=>by
    have:=Walks.list (prog:=pw) (w:=w) hh s1.heap.objs.size ad (fun q=>by rw [q,fresh_size] at hg';cases hg') vs
    rw [hlen] at this;exact this) (fun i v d hv hd=>by
    obtain ⟨v',h1,h2⟩:=r.get hd
    rw [show vs.toList[i]? = vs[i]? by simp,hv] at h1;cases h1;exact h2) (fun i h hst=>by obtain ⟨⟨o,e,hc,_⟩,_⟩:=hst;exact ⟨o,e,.inl hc⟩) hf
  obtain ⟨q1,q2,q3⟩:=z1.fps _ h ad hfp
  obtain ⟨c2,y2⟩:=z1.iter {cls:=.type "list_iterator",data:=.fields #[.ref ad,.int 0 0]} rfl (K:=itK _ [s1.heap.objs.size,ad] s1.heap.objs.size G1 hf 0)
   ⟨⟨⟨_,Heap.get?_push_size _ rfl,rfl,rfl⟩,hl.at fun o e=>Heap.get?_push_of_some _ e⟩,Le.rfl⟩ rfl (fun b hb=>by
    rcases List.mem_cons.mp hb with e | hb
    ·exact .inl e
    ·have:=List.mem_singleton.mp hb;subst this
     exact .inr ⟨by rw [hg'];exact (fun h=>(nomatch h)),hno,q2,q3⟩) (by show _∈[_,_];simp)
  exact k _ ds _ _ _ it hp (Classical.byContradiction fun q=>y1.dom _ q (fresh_size _)) (y1.trans y2 fun _ h=>nomatch h) c2
theorem St.chg {G₀ G:Fz} {s₀ s:Shared} {M:List Addr} {x:Option Str} {K K':Kd} {I:Addr} {h':Heap} (c:St w env G₀ s₀ M ((x,K)::ρ) G s) (ho:I∈K.ow) (hk:∀ b o,b≠I→s.heap.get? b=some o→h'.get? b=some o) (hx:h'.get? I≠none)
  (hfp:K'.fp=K.fp) (how:K'.ow=K.ow) (hp:∀ v,(x=none→v=.none)→K.p v G s.heap→K'.p v G h') (tk:Nat):St w env G₀ s₀ M ((x,K')::ρ) G {s with heap:=h',toks:=tk}:=by
 obtain ⟨o1,o2,o3⟩:=c.ows _ (.head _) I ho
 obtain ⟨f1,f2,f3⟩:=c.fps _ (.head _) I o1
 obtain ⟨sp,sr⟩:=List.pairwise_cons.mp c.sep
 have nfp:∀ q∈ρ,I∉q.2.fp:=fun q hq=>(sp q hq).2.1 I ho
 have y:Step G s [I] G {s with heap:=h',toks:=tk}:=⟨⟨h',tk,rfl⟩,Le.rfl,fun b o e=>hk b o (fun q=>by rw [q,o2] at e;cases e) (c.step.inn b o e),fun _ _ e=>.inl e,
  fun b o hb e=>hk b o (fun q=>hb (List.mem_singleton.mpr q)) e,fun b hb=>by
   by_cases q:b=I
   ·rw [q];exact hx
   ·obtain ⟨o,e⟩:=Option.ne_none_iff_exists'.mp hb
    show h'.get? b≠none
    rw [hk b o q e];exact (fun h=>(nomatch h))⟩
 have kL:∀ o,s.heap.get? env.locals=some o→h'.get? env.locals=some o:=fun o e=>hk _ _ (fun q=>f2 q.symm) e
 have kC:∀ yy cc,env.cells.lookup yy=some cc→∀ o,s.heap.get? cc=some o→h'.get? cc=some o:=fun yy cc hm o e=>hk _ _ (fun q=>f3 yy cc hm q.symm) e
 exact {
  step:=c.step.trans y fun b hb=>by rw [List.mem_singleton.mp hb];exact o3
  base:=c.base
  fr:=by obtain ⟨m,o,es,ep,e,r⟩:=c.fr;exact ⟨m,o,es,ep,kL _ e,r⟩
  newL:=c.newL
  GL:=c.GL
  cell:=fun yy cc hm=>⟨by obtain ⟨⟨v,o,e,r⟩,_⟩:=c.cell yy cc hm;exact ⟨v,o,kC yy cc hm _ e,r⟩,(c.cell yy cc hm).2⟩
  apart:=c.apart
  cnew:=c.cnew
  vars:=fun q hq=>by
   rcases List.mem_cons.mp hq with e | hq
   ·subst e
    have:=c.vars _ (.head _)
    cases x with
    | none=>exact hp _ (fun _=>rfl) this
    | some z=>obtain ⟨v,a,b⟩:=this;exact ⟨v,a.keeps kL kC,hp v (fun e=>nomatch e) b⟩
   ·exact (c.vars q (.tail _ hq)).next Le.rfl kL kC fun a ha o e=>hk _ _ (fun e'=>nfp q hq (e'▸ha)) e
  fps:=fun q hq a ha=>by
   rcases List.mem_cons.mp hq with e | hq
   ·subst e
    obtain ⟨g1,g2,g3⟩:=c.fps _ (.head _) a (hfp▸ha)
    exact ⟨y.dom a g1,g2,g3⟩
   ·obtain ⟨g1,g2,g3⟩:=c.fps q (.tail _ hq) a ha
    exact ⟨y.dom a g1,g2,g3⟩
  ows:=fun q hq a ha=>by
   rcases List.mem_cons.mp hq with e | hq
   ·subst e
    obtain ⟨g1,g2⟩:=c.ows _ (.head _) a (how▸ha)
    exact ⟨hfp▸g1,g2⟩
   ·exact c.ows q (.tail _ hq) a ha
  sep:=List.pairwise_cons.mpr ⟨fun q hq=>⟨(sp q hq).1,how▸(sp q hq).2.1,hfp▸(sp q hq).2.2⟩,sr⟩}
end Mine
end
section
namespace Mine
variable {w:World} {env:Env} {n:Nat} {N:List Addr} {ρ:Rho}
noncomputable abbrev EFor (w:World) (A:Around) (env:Env) (E:Value→Shared→Prop):Value→Shared→Prop:=notedBy (model pw w) A env fun e s'=>cameBackBy (model pw w) A env E e s'
theorem st_for {A:Around} {target iter:PySem.Expr} {body:List Stmt} {pos:Pos} {G₀ G:Fz} {s₀ s:Shared} {M:List Addr} {Pds:List D→Prop} {Q:Flow→Shared→Prop} {E:Value→Shared→Prop} (a:AOK n A) (hNM:∀ a∈N,a∈M) (c:St w env G₀ s₀ M ρ G s)
  (hi:Ite w env n N ρ iter Pds) (ρI:List D→Nat→Rho)
  (start:∀ ds G' s' K,Pds ds→St w env G₀ s₀ M ((none,K)::ρ) G' s'→St w env G₀ s₀ M ((none,K)::ρI ds 0) G' s')
  (turn:∀ ds i d v G' s' K,Pds ds→ds[i]? = some d→Rep w.params G' v d→St w env G₀ s₀ M ((none,K)::ρI ds i) G' s'→
   wpAny (model pw w) A (assign target env v) (fun _ s2=>wpAny (model pw w) A (execs body env) (fun f s3=>match f with
    | .next | .cont=>∃ G3,St w env G₀ s₀ M ((none,K)::ρI ds (i+1)) G3 s3
    | .brk=>False
    | .ret v=>Q (.ret v) s3) (EFor w A env E) s2) (EFor w A env E) s')
  (done:∀ ds G' s',Pds ds→St w env G₀ s₀ M (ρI ds ds.length) G' s'→Q .next s')
  (hs:∀ x,foldedSetIterable iter env x=pure x:=by intro _;rfl) :
  wpAny (model pw w) A (exec (.For target iter body [] pos) env) Q E s:=by
 refine wpAny_For (hi A G₀ s₀ M G s _ E a hNM c fun I ds IF G' s' it hp hI y z=>?_) hs
 have hI0:s₀.heap.get? I=none:=Classical.byContradiction fun q=>c.step.dom _ q hI
 refine codeAny_forLoop_any (fun k s2=>∃ i G2,k=ds.length+1 - i∧i≤ds.length∧St w env G₀ s₀ M ((none,IF i)::ρI ds i) G2 s2) ?_ (ds.length+1) ⟨0,G',rfl,Nat.zero_le _,start ds G' s' _ hp z⟩
 rintro k s2 ⟨i,G2,rfl,hle,c2⟩
 have hp2:=c2.vars _ (.head _)
 cases hd:ds[i]? with
 | none=>
  have hlen:i=ds.length:=by have:=List.getElem?_eq_none_iff.mp hd;omega
  subst hlen
  refine it.done A G2 s2 _ _ a.2.2 hp2 fun h' tk hk=>?_
  refine wpAny_execs_nil ?_
  exact done ds G2 _ hp (c2.lose hI0 (by rw [it.ow];simp) hk tk)
 | some d=>
  have hlt:i < ds.length:=(List.getElem?_eq_some_iff.mp hd).1
  refine it.next A i G2 s2 _ _ d a.2.2 hd hp2 fun v h' tk hK hr hx hk=>?_
  have c3:=c2.chg (by rw [it.ow];simp) hk hx ((it.fp (i+1)).trans (it.fp i).symm) ((it.ow (i+1)).trans (it.ow i).symm) (fun _ e _=>by rw [e rfl];exact hK) tk
  refine letGo_plain (it.pl (i+1) _ _ hK) ?_
  refine wpAny_mono (turn ds i d v G2 _ _ hp hd hr c3) (fun _ s3 h3=>wpAny_mono h3 (fun f s4 h4=>?_) fun _ _ e=>e) fun _ _ e=>e
  cases f with
  | next=>obtain ⟨G3,c4⟩:=h4;exact ⟨ds.length+1 - (i+1),by exact qc ‹_›,i+1,G3,rfl,hlt,c4⟩
  | cont=>obtain ⟨G3,c4⟩:=h4;exact ⟨ds.length+1 - (i+1),by exact qc ‹_›,i+1,G3,rfl,hlt,c4⟩
  | brk=>exact h4.elim
  | ret u=>exact h4
theorem st_name {A:Around} {x:Str} {px:Pos} {v:Value} {d:D} {G₀ G:Fz} {s₀ s:Shared} {M:List Addr} {ρ':Rho} {Q:Unit→Shared→Prop} {E:Value→Shared→Prop} (c:St w env G₀ s₀ M ρ G s) (hr:Rep w.params G v d) (hu:Upd x (dat w.params d) ρ ρ')
  (hk:env.scope.kind=.function) (hx:env.kindOf x=some .local∨(env.kindOf x=some .cell∧(env.cells.lookup x).isSome=true∧env.func.isSome=true))
  (h:∀ s',St w env G₀ s₀ M ρ' G s'→Q () s'):wpAny (model pw w) A (assign (.Name x px) env v) Q E s:=
 wpAny_assign_Name (c.store hk hx hu hr (fun _ h=>nomatch h) (fun _ h=>nomatch h) (fun q _ _=>⟨(fun _ h=>nomatch h),(fun _ _ h=>nomatch h)⟩) h)
noncomputable def accK (w:World) (Dd:Addr) (l:List D):Kd:=
 ⟨fun _ G h=>∃ vs m,h.get? Dd=some (lstO vs m)∧RepL w.params G vs.toList l,[Dd],[Dd],fun hl he ⟨vs,m,e,r⟩=>⟨vs,m,he Dd (by simp) _ e,r.mono hl⟩⟩
inductive All2 (R:D→D→Prop):List D→List D→Prop
 | nil:All2 R [] []
 | cons {a b l m}:R a b→All2 R l m→All2 R (a::l) (b::m)
theorem All2.snoc {R:D→D→Prop} {a b:D} {l m:List D} (h:All2 R l m) (k:R a b):All2 R (l++[a]) (m++[b]):=by
 induction h with
 | nil=>exact .cons k .nil
 | cons h _ ih=>exact .cons h ih
theorem All2.map {f:D→D} {l m:List D} (h:All2 (fun a b=>b=f a) l m):m=l.map f:=by
 induction h with
 | nil=>rfl
 | cons h _ ih=>rw [h,ih];rfl
theorem All2.length {R:D→D→Prop} {l m:List D} (h:All2 R l m):m.length=l.length:=by
 induction h with
 | nil=>rfl
 | cons h _ ih=>rw [List.length_cons,List.length_cons,ih]
theorem EvK.frame {e:PySem.Expr} {ρ':Rho} {K:Shared→Value→Fz→Shared→Prop} (x:EvK w env n [] ρ' e K) (hs:ρ'.Sublist ρ):EvK w env n [] ρ e K:=
 fun A G₀ s₀ M G s Q E a b c k=>x A G₀ s₀ M G s Q E a b (c.sub hs) fun v G' s' y z q=>k v G' s' y (c.pure y) q
inductive InC (N:List Addr) (env:Env) (scope:Scope) (cl:List (Str×Addr)) (ρ:Rho):Option Str×Kd→Prop
 | fact {K}:(none,K)∈ρ→InC N env scope cl ρ (none,K.ro)
 | own {K}:(none,K)∈ρ→(∀ a∈K.ow,a∈N)→InC N env scope cl ρ (none,K)
 | var {y K}:(some y,K)∈ρ→(env.kindOf y=some .cell∨env.kindOf y=some .free)→cl.lookup y=env.cells.lookup y→((relabel scope env).names.lookup y=some .cell∨(relabel scope env).names.lookup y=some .free)→InC N env scope cl ρ (some y,K.ro)
theorem ro_sep {ρ:Rho} (h:∀ q∈ρ,q.2.ow=[]) (hn:ρ.Pairwise fun p q=>p.1=none∨p.1≠q.1):ρ.Pairwise Sep:=by
 induction ρ with
 | nil=>exact .nil
 | cons p r ih=>
  obtain ⟨h1,h2⟩:=List.pairwise_cons.mp hn
  refine List.pairwise_cons.mpr ⟨fun q hq=>⟨h1 q hq,?_,?_⟩,ih (fun q hq=>h q (.tail _ hq)) h2⟩
  ·rw [h p (.head _)];exact fun _ h=>nomatch h
  ·rw [h q (.tail _ hq)];exact fun _ h=>nomatch h
theorem Sep.symm {p q:Option Str×Kd} (h:Sep p q):Sep q p:=by
 obtain ⟨h1,h2,h3⟩:=h
 refine ⟨?_,h3,h2⟩
 cases hq:q.1 with
 | none=>exact .inl rfl
 | some y=>
  rcases h1 with e | e
  ·exact .inr (by rw [e];exact (fun h=>(nomatch h)))
  ·exact .inr fun e'=>e (by rw [hq,e'])
theorem St.swap {G₀ G:Fz} {s₀ s:Shared} {M:List Addr} {p q:Option Str×Kd} (c:St w env G₀ s₀ M (p::q::ρ) G s):St w env G₀ s₀ M (q::p::ρ) G s:=by
 have hm:∀ r,r∈q::p::ρ→r∈p::q::ρ:=fun r hr=>by simp only [List.mem_cons] at hr ⊢;rcases hr with h | h | h<;>simp [h]
 obtain ⟨h1,h2⟩:=List.pairwise_cons.mp c.sep
 obtain ⟨h3,h4⟩:=List.pairwise_cons.mp h2
 exact {c with
  vars:=fun r hr=>c.vars r (hm r hr)
  fps:=fun r hr=>c.fps r (hm r hr)
  ows:=fun r hr=>c.ows r (hm r hr)
  sep:=List.pairwise_cons.mpr ⟨fun r hr=>(List.mem_cons.mp hr).elim (fun e=>e▸(h1 q (.head _)).symm) (h3 r),List.pairwise_cons.mpr ⟨fun r hr=>h1 r (.tail _ hr),h4⟩⟩}
inductive Swap (q q':Option Str×Kd):Rho→Rho→Prop
 | head {ρ:Rho}:Swap q q' (q::ρ) (q'::ρ)
 | tail {p:Option Str×Kd} {ρ ρ':Rho}:Swap q q' ρ ρ'→Swap q q' (p::ρ) (p::ρ')
theorem Swap.perm {q q':Option Str×Kd} {ρ ρ':Rho} (h:Swap q q' ρ ρ'):∃ r,ρ.Perm (q::r)∧ρ'.Perm (q'::r):=by
 induction h with
 | head=>exact ⟨_,.refl _,.refl _⟩
 | @tail p _ _ _ ih=>exact ih.elim fun r h=>⟨p::r,(h.1.cons p).trans (.swap ..),(h.2.cons p).trans (.swap ..)⟩
theorem Swap.mem {q q':Option Str×Kd} {ρ ρ':Rho} (h:Swap q q' ρ ρ'):q∈ρ:=by
 induction h with
 | head=>exact .head _
 | tail _ ih=>exact .tail _ ih
theorem St.perm {G₀ G:Fz} {s₀ s:Shared} {M:List Addr} {ρ':Rho} (c:St w env G₀ s₀ M ρ G s) (h:ρ.Perm ρ'):St w env G₀ s₀ M ρ' G s:=
 {c with
  vars:=fun q hq=>c.vars q (h.mem_iff.mpr hq)
  fps:=fun q hq=>c.fps q (h.mem_iff.mpr hq)
  ows:=fun q hq=>c.ows q (h.mem_iff.mpr hq)
  sep:=(h.pairwise_iff fun hab=>Sep.symm hab).mp c.sep}
theorem St.chgAt {G₀ G:Fz} {s₀ s:Shared} {M:List Addr} {ρ':Rho} {x:Option Str} {K K':Kd} {I:Addr} {h':Heap} (c:St w env G₀ s₀ M ρ G s) (sw:Swap (x,K) (x,K') ρ ρ') (ho:I∈K.ow)
  (hk:∀ b o,b≠I→s.heap.get? b=some o→h'.get? b=some o) (hx:h'.get? I≠none) (hf:K'.fp=K.fp) (how:K'.ow=K.ow) (hp:∀ v,K.p v G s.heap→K'.p v G h') (tk:Nat):St w env G₀ s₀ M ρ' G {s with heap:=h',toks:=tk}:=by
 obtain ⟨r,h1,h2⟩:=sw.perm
 exact ((c.perm h1).chg ho hk hx hf how (fun v _ h=>hp v h) tk).perm h2.symm
noncomputable def nsK (C:Addr):Kd:=⟨fun _ _ h=>∃ m,h.Ns C m,[C],[C],fun _ he ⟨m,o,es,ep,e,r⟩=>⟨m,o,es,ep,he C (by simp) _ e,r⟩⟩
noncomputable def TurnIs (e:PySem.Expr) (dp:Nat) (ce:Env) (target:PySem.Expr) (ifs:List PySem.Expr) (p0:Pos) (emit:Value→Sem Unit):Prop:=
 ∀ it acc,compTurn e dp it acc ce=(do
   standAt p0
   match←pyNext it with
   | none=>pure (.done .next)
   | some v=>
    letOwnedTupleGo target it v
    assign target ce v
    let mut ok:=true
    for c in ifs do
     if ok then ok←isTrue c ce (eval c ce)
    if ok then emit acc
    again (.compLoop e dp it acc ce))
theorem comp_loop {elt target:PySem.Expr} {gens:List Comprehension} {scope:Scope} {pos:Pos} {dp:Nat} {ifs:List PySem.Expr} {p0:Pos} {emit:Value→Sem Unit} {ce:Env} (he:TurnIs (.ListComp elt gens scope pos) dp ce target ifs p0 emit) {A:Around} {R:Result→Shared→Prop} {G₀:Fz} {s₀:Shared} {M:List Addr} {I Dd:Addr} {ds:List D} {IF:Nat→Kd} {ρc:Rho} (ρd:D→Rho) (p:D→Bool)
  (Inv:Nat→List D→Prop) (it:It w I ds IF) (hI:s₀.heap.get? I=none) (a:A.handled=none) (hnum:∀ i acc,Inv i acc→acc.length≤1000000)
  (turn:∀ (E:Value→Shared→Prop) i acc d v G s,ds[i]? = some d→Inv i acc→Rep w.params G v d→St w ce G₀ s₀ M ((none,IF (i+1))::(none,accK w Dd acc)::ρc) G s→
   wpAny (model pw w) A (assign target ce v) (fun _ s2=>∃ G2,St w ce G₀ s₀ M ((none,IF (i+1))::(none,accK w Dd acc)::ρd d) G2 s2) E s)
  (hsub:∀ d,ρc.Sublist (ρd d))
  (test:∀ (E:Value→Shared→Prop) i acc d G s,ds[i]? = some d→Inv i acc→St w ce G₀ s₀ M ((none,IF (i+1))::(none,accK w Dd acc)::ρd d) G s→
   wpAny (model pw w) A (forIn ifs true fun c r=>if r=true then do let ok←isTrue c ce (eval c ce);pure (ForInStep.yield ok) else pure (ForInStep.yield r))
    (fun b s2=>b=p d∧∃ G2,St w ce G₀ s₀ M ((none,IF (i+1))::(none,accK w Dd acc)::ρd d) G2 s2) E s)
  (skip:∀ i acc d,ds[i]? = some d→p d=false→Inv i acc→Inv (i+1) acc)
  (emits:∀ (E:Value→Shared→Prop) i acc d G s,ds[i]? = some d→p d=true→Inv i acc→St w ce G₀ s₀ M ((none,IF (i+1))::(none,accK w Dd acc)::ρd d) G s→
   wpAny (model pw w) A (emit (.ref Dd)) (fun _ s2=>∃ G2 acc',Inv (i+1) acc'∧St w ce G₀ s₀ M ((none,IF (i+1))::(none,accK w Dd acc')::ρc) G2 s2) E s)
  (done:∀ acc G s,Inv ds.length acc→St w ce G₀ s₀ M ((none,accK w Dd acc)::ρc) G s→R (.ok .next) s)
  (G:Fz) (s:Shared) (acc:List D) (h0:Inv 0 acc) (c:St w ce G₀ s₀ M ((none,IF 0)::(none,accK w Dd acc)::ρc) G s):codeAny (model pw w) A (.compLoop (.ListComp elt gens scope pos) dp (.ref I) (.ref Dd) ce) R s:=by
 refine codeAny_loop rfl (fun k s2=>∃ i acc G2,k=ds.length+1 - i∧i≤ds.length∧Inv i acc∧St w ce G₀ s₀ M ((none,IF i)::(none,accK w Dd acc)::ρc) G2 s2) (fun k s2 hk=>?_) (ds.length+1) ⟨0,acc,G,rfl,Nat.zero_le _,h0,c⟩
 obtain ⟨i,acc,G2,rfl,hle,hinv,c3⟩:=hk
 show wpAny _ A ((compTurn (.ListComp elt gens scope pos) dp (.ref I) (.ref Dd) ce).onRaise (fun x=>do noteFrame x ce;theTreesLotGoes x)) _ _ s2
 refine wpAny_noted ?_
 rw [he]
 have hp2:=c3.vars _ (.head _)
 refine wpAny_bind (wpAny_standAt (wpAny_bind ?_))
 cases hd:ds[i]? with
 | none=>
  have hlen:i=ds.length:=by have:=List.getElem?_eq_none_iff.mp hd;omega
  subst hlen
  refine it.done A G2 s2 _ _ a hp2 fun h' tk hk=>?_
  exact wpAny_pure (done acc G2 _ hinv (c3.lose hI (by rw [it.ow];simp) hk tk))
 | some d=>
  have hlt:i < ds.length:=(List.getElem?_eq_some_iff.mp hd).1
  refine it.next A i G2 s2 _ _ d a hd hp2 fun v h' tk hK hr hx hk=>?_
  have c4:=c3.chg (by rw [it.ow];simp) hk hx ((it.fp (i+1)).trans (it.fp i).symm) ((it.ow (i+1)).trans (it.ow i).symm) (fun _ e _=>by rw [e rfl];exact hK) tk
  refine wpAny_bind (letGo_plain (it.pl (i+1) _ _ hK) ?_)
  refine wpAny_bind (wpAny_mono (turn _ i acc d v G2 _ hd hinv hr c4) (fun _ s5 ⟨G5,c5⟩=>?_) fun _ _ e=>e)
  refine wpAny_bind (wpAny_mono (test _ i acc d G5 s5 hd hinv c5) (fun b s6 ⟨hb,G6,c6⟩=>?_) fun _ _ e=>e)
  have go:∀ acc' G7 s7,Inv (i+1) acc'→St w ce G₀ s₀ M ((none,IF (i+1))::(none,accK w Dd acc')::ρc) G7 s7→∃ m,m < ds.length+1 - i∧∃ i acc G2,m=ds.length+1 - i∧i≤ds.length∧Inv i acc∧St w ce G₀ s₀ M ((none,IF i)::(none,accK w Dd acc)::ρc) G2 s7:=
   fun acc' G7 s7 h1 h2=>⟨ds.length+1 - (i+1),by exact qc ‹_›,i+1,acc',G7,rfl,hlt,h1,h2⟩
  subst hb
  cases hpd:p d with
  | false=>exact wpAny_pure ⟨rfl,go acc G6 s6 (skip i acc d hd hpd hinv) (c6.sub (((hsub d).cons_cons _).cons_cons _))⟩
  | true=>
   exact wpAny_bind (wpAny_mono (emits _ i acc d G6 s6 hd hpd hinv c6) (fun _ s7 ⟨G7,acc',h1,h2⟩=>wpAny_pure ⟨rfl,go acc' G7 s7 h1 h2⟩) fun _ _ e=>e)
end Mine
end
section
namespace Mine
variable {w:World} {env:Env} {n:Nat} {N:List Addr} {ρ:Rho}
section
variable {A:Around} {G₀ G:Fz} {s₀ s:Shared} {M:List Addr} {Q:Flow→Shared→Prop} {E:Value→Shared→Prop}
theorem st_nil (h:Q .next s):wpAny (model pw w) A (execs [] env) Q E s:=wpAny_execs_nil h
theorem st_ret {e:PySem.Expr} {pos:Pos} {rest:List Stmt} {K:Shared→Value→Fz→Shared→Prop} (a:AOK n A) (hN:∀ a∈N,a∈M) (c:St w env G₀ s₀ M ρ G s) (he:EvK w env n N ρ e K)
  (k:∀ v G' s',Step G s N G' s'→St w env G₀ s₀ M ρ G' s'→K s v G' s'→Q (.ret v) s'):wpAny (model pw w) A (execs (.Return (some e) pos::rest) env) Q E s:=
 wpAny_execs_cons (wpAny_Return_some (he A G₀ s₀ M G s _ E a hN c fun v G' s' y z q=>k v G' s' y z q))
theorem st_if {t:PySem.Expr} {body orelse rest:List Stmt} {pos:Pos} {P:Bool→Prop} (a:AOK n A) (hN:∀ a∈N,a∈M) (c:St w env G₀ s₀ M ρ G s) (ht:Tr w env n N ρ t P)
  (k:∀ b G' s',P b→St w env G₀ s₀ M ρ G' s'→wpAny (model pw w) A (execs (if b then body else orelse) env) (fun f s2=>match f with | .next=>wpAny (model pw w) A (execs rest env) Q E s2 | f=>Q f s2) E s') :
  wpAny (model pw w) A (execs (.If t body orelse pos::rest) env) Q E s:=
 wpAny_execs_cons (wpAny_If (ht A G₀ s₀ M G s _ E a hN c fun b G' s' y z p=>by
  have:=k b G' s' p z
  cases b with
  | true=>exact wpAny_mono this (fun f s2 h=>by cases f<;>exact h) fun _ _ e=>e
  | false=>exact wpAny_mono this (fun f s2 h=>by cases f<;>exact h) fun _ _ e=>e))
theorem st_ifD {t:PySem.Expr} {body orelse rest:List Stmt} {pos:Pos} {p:Prop} [Decidable p] (a:AOK n A) (hN:∀ a∈N,a∈M) (c:St w env G₀ s₀ M ρ G s) (ht:Tr w env n N ρ t (fun b=>b=decide p))
  (kt:∀ G' s',p→St w env G₀ s₀ M ρ G' s'→wpAny (model pw w) A (execs body env) (fun f s2=>match f with | .next=>wpAny (model pw w) A (execs rest env) Q E s2 | f=>Q f s2) E s') (kf:∀ G' s',¬ p→St w env G₀ s₀ M ρ G' s'→wpAny (model pw w) A (execs orelse env) (fun f s2=>match f with | .next=>wpAny (model pw w) A (execs rest env) Q E s2 | f=>Q f s2) E s') :
  wpAny (model pw w) A (execs (.If t body orelse pos::rest) env) Q E s:=
 st_if a hN c ht fun b G' s' hb c'=>by
  by_cases h:p
  ·rw [decide_eq_true h] at hb;subst hb;exact kt G' s' h c'
  ·rw [decide_eq_false h] at hb;subst hb;exact kf G' s' h c'
theorem st_ifN {t:PySem.Expr} {body orelse rest:List Stmt} {pos:Pos} {p:Prop} [Decidable p] (a:AOK n A) (hN:∀ a∈N,a∈M) (c:St w env G₀ s₀ M ρ G s) (ht:Tr w env n N ρ t (fun b=>b=(!decide p)))
  (kt:∀ G' s',¬ p→St w env G₀ s₀ M ρ G' s'→wpAny (model pw w) A (execs body env) (fun f s2=>match f with | .next=>wpAny (model pw w) A (execs rest env) Q E s2 | f=>Q f s2) E s') (kf:∀ G' s',p→St w env G₀ s₀ M ρ G' s'→wpAny (model pw w) A (execs orelse env) (fun f s2=>match f with | .next=>wpAny (model pw w) A (execs rest env) Q E s2 | f=>Q f s2) E s') :
  wpAny (model pw w) A (execs (.If t body orelse pos::rest) env) Q E s:=
 st_if a hN c ht fun b G' s' hb c'=>by
  by_cases h:p
  ·rw [decide_eq_true h] at hb;subst hb;exact kf G' s' h c'
  ·rw [decide_eq_false h] at hb;subst hb;exact kt G' s' h c'
theorem st_asg {x:Str} {px pos:Pos} {e:PySem.Expr} {rest:List Stmt} {P:D→Prop} (a:AOK n A) (hN:∀ a∈N,a∈M) (c:St w env G₀ s₀ M ρ G s) (he:Ev w env n N ρ e P) {ρ':D→Rho} (hu:∀ d,Upd x (dat w.params d) ρ (ρ' d))
  (hk:env.scope.kind=.function) (hx:env.kindOf x=some .local∨(env.kindOf x=some .cell∧(env.cells.lookup x).isSome=true∧env.func.isSome=true))
  (k:∀ d G' s',P d→St w env G₀ s₀ M (ρ' d) G' s'→wpAny (model pw w) A (execs rest env) Q E s') (hs:swapsWith e (some (.Name x px)) pos.line env=pure false:=by rfl) :
  wpAny (model pw w) A (execs (.Assign [.Name x px] e pos::rest) env) Q E s:=
 wpAny_execs_cons (wpAny_Assign_Name (he A G₀ s₀ M G s _ E a hN c fun v G' s' y z ⟨d,r,p⟩=>
  z.store hk hx (hu d) r (fun _ h=>nomatch h) (fun _ h=>nomatch h) (fun q _ _=>⟨(fun _ h=>nomatch h),(fun _ _ h=>nomatch h)⟩) fun s2 c2=>k d G' s2 p c2) hs)
theorem st_own {x:Str} {px pos:Pos} {e:PySem.Expr} {rest:List Stmt} {P:List D→Prop} (a:AOK n A) (hN:∀ a∈N,a∈M) (c:St w env G₀ s₀ M ρ G s) (he:EvL w env n N ρ e P) {ρ':Addr→List D→Rho} (hu:∀ ad l,Upd x (own w.params ad l) ρ (ρ' ad l))
  (hk:env.scope.kind=.function) (hx:env.kindOf x=some .local∨(env.kindOf x=some .cell∧(env.cells.lookup x).isSome=true∧env.func.isSome=true))
  (k:∀ ad l G' s',P l→s₀.heap.get? ad=none→St w env G₀ s₀ M (ρ' ad l) G' s'→wpAny (model pw w) A (execs rest env) Q E s') (hs:swapsWith e (some (.Name x px)) pos.line env=pure false:=by rfl) :
  wpAny (model pw w) A (execs (.Assign [.Name x px] e pos::rest) env) Q E s:=
 wpAny_execs_cons (wpAny_Assign_Name (he A G₀ s₀ M G s _ E a hN c fun v G' s' y z ⟨ad,vs,m,l,e1,e2,e3,e4,r,p⟩=>by
  subst e1
  have h0:s₀.heap.get? ad=none:=Classical.byContradiction fun q=>c.step.dom ad q e2
  have ne:∀ b,s.heap.get? b≠none→ad≠b:=fun b hb q=>hb (q▸e2)
  refine z.store hk hx (hu ad l) ⟨rfl,vs,m,e4,r⟩ (fun b hb=>?_) (fun b hb=>?_) (fun q hq _=>⟨fun b hb hm=>?_,fun b hb hm=>?_⟩) fun s2 c2=>k ad l G' s2 p h0 c2
  ·have:=List.mem_singleton.mp hb;subst this
   exact ⟨by rw [e4];exact (fun h=>(nomatch h)),ne _ c.frL,fun y' cc hm=>ne _ (c.frC hm)⟩
  ·have:=List.mem_singleton.mp hb;subst this
   exact ⟨hb,e3,.inr h0⟩
  ·have:=List.mem_singleton.mp hb;subst this
   exact (c.fps q hq _ hm).1 e2
  ·have:=List.mem_singleton.mp hm;subst this
   exact (c.fps q hq _ (c.ows q hq _ hb).1).1 e2) hs)
end
theorem ev_len_tup {x:Str} {np pos:Pos} {e:PySem.Expr} {P1 P:D→Prop} (hf:EvV w env n N ρ (.Name x np) (.builtin "len")) (he:Ev w env n N ρ e P1) (ht:backTo pos (starEach [e] env)=[(false,eval e env)])
  (h:∀ d,P1 d→E1 .tup d fun l=>l.length≤1000000∧P (.int l.length)):Ev w env n N ρ (.Call (.Name x np) [e] [] pos) P:=
 evk_blt1 hf he ht (fun _ _ _ _ _ x _=>x) fun G s v i _ ⟨d,r,p⟩=>by
  obtain ⟨l,rfl,hb,hp⟩:=h d p
  replace r:=r.inv;obtain ⟨a,vs,m,rfl,hg,r⟩:=r
  ·
   have hlen:=r.arr
   rw [← hlen] at hp
   exact .tok i (.int _ _) hp _ fun A Q E _ q=>PyProof.Rows.len_tuple ⟨_,i _ _ hg,rfl,m,rfl⟩ (by omega) q
theorem ev_lenS {x:Str} {np pos:Pos} {e:PySem.Expr} {P1:List D→Prop} {P:D→Prop} (hf:EvV w env n N ρ (.Name x np) (.builtin "len")) (he:EvS w env n N ρ e P1) (ht:backTo pos (starEach [e] env)=[(false,eval e env)])
  (h:∀ l,P1 l→l.length≤1000000∧P (.int l.length)):Ev w env n N ρ (.Call (.Name x np) [e] [] pos) P:=
 evk_blt1 hf he ht (fun _ _ _ _ _ x _=>x) fun G s v i _ ⟨a,vs,m,l,e1,hg,r,p⟩=>by
  obtain ⟨hb,hp⟩:=h l p
  subst e1
  have hlen:=r.arr
  rw [← hlen] at hp
  exact .tok i (.int _ _) hp _ fun A Q E _ q=>Calls.call_len_list ⟨_,hg,rfl,m,rfl⟩ (by omega) q
theorem evs_lst {e:PySem.Expr} {P1:D→Prop} {P:List D→Prop} (he:Ev w env n N ρ e P1) (h:∀ d,P1 d→E1 .lst d fun l=>P l):EvS w env n N ρ e P:=
 he.mono fun _ v G s i ⟨d,r,p⟩=>by
  obtain ⟨l,rfl,hp⟩:=h d p
  replace r:=r.inv;obtain ⟨a,vs,m,rfl,hg,r⟩:=r
  exact ⟨a,vs,m,l,rfl,i _ _ hg,r,hp⟩
noncomputable def lawFd (i:Nat) (nm:Str) (c:Addr):FuncData:=
 {name:=nm,qualname:=nm,params:=(fnAt i).1,body:=.stmts (fnAt i).2.1,scope:=(fnAt i).2.2,globals:=3,closure:=[],defaults:=.none,kwdefaults:=.none,doc:=.none,pyModule:=.str "law_nz0386_01" 514,annotations:=none,code:=.ref c,closureTuple:=.none,builtins:=0}
noncomputable def metFd (j:Nat) (nm:Str) (c:Addr):FuncData:=
 {name:=nm,qualname:=Str.ofString "Signatures." ++ nm,params:=(methAt 7 j).1,body:=.stmts (methAt 7 j).2.1,scope:=(methAt 7 j).2.2,globals:=3,closure:=[],defaults:=.none,kwdefaults:=.none,doc:=.none,pyModule:=.str "relfinder.sigs" 285,annotations:=none,code:=.ref c,closureTuple:=.none,builtins:=0}
theorem ff_direct:FnFacts w 297 (lawFd 14 "_law_direct" 296) (fnAt 14).2.1:=⟨rfl,rfl,rfl,by decide +kernel,rfl,rfl,rfl⟩
end Mine
end
section
namespace Mine
variable {w:World} {env:Env} {n:Nat} {N:List Addr} {ρ:Rho}
theorem KL.push {P:List D→Prop} {G:Fz} {s:Shared} (i:Inn G s.heap) {vs:Array Value} {ds:List D} (r:RepL w.params G vs.toList ds) (p:P ds) :
  Step G s [] G {s with heap:=s.heap.push (lstO vs 0)}∧KL w P s (.ref s.heap.objs.size) G {s with heap:=s.heap.push (lstO vs 0)}:=by
 refine ⟨Step.push i _ s.toks,_,vs,0,ds,rfl,fresh_size _,?_,Heap.get?_push_size _ rfl,r,p⟩
 cases q:G s.heap.objs.size with
 | none=>rfl
 | some o=>have:=i _ _ q;rw [fresh_size] at this;cases this
theorem evl_add {l r pos} {P1 P2 P:List D→Prop} (hl:EvS w env n [] ρ l P1) (hr:EvS w env n [] ρ r P2) (h:∀ a b,P1 a→P2 b→a.length+b.length≤1000000∧P (a++b)):EvL w env n [] ρ (.BinOp l .Add r pos) P:=
 fun A G₀ s₀ M G s Q E a b c k'=>
 wpAny_BinOp (hl A G₀ s₀ M G s _ E a b c fun v1 G1 s1 y1 z1 q1=>hr A G₀ s₀ M G1 s1 _ E a b z1 fun v2 G2 s2 y2 z2 ⟨a2,vs2,m2,d2,e2,g2,r2,p2⟩=>by
  obtain ⟨a1,vs1,m1,d1,e1,g1,r1,p1⟩:=KS.step _ _ _ _ _ q1 y2
  subst e1;subst e2
  have y:=y1.trans y2 fun q hq=>.inl hq
  obtain ⟨hb,hp⟩:=h _ _ p1 p2
  have h1:=r1.arr
  have h2:=r2.arr
  obtain ⟨y3,k3⟩:=KL.push (P:=P) z2.step.inn (vs:=vs1++vs2) (by simpa using r1.append r2) hp
  refine PySem.P.add_list (n:=m1) (n2:=m2) g1 g2 ?_ (by rw [sizeLine_eq];omega)
  exact k' _ _ _ (y.trans y3 fun _ h=>nomatch h) (z2.pure y3) (k3.early y.dom))
theorem evl_list_of {x:Str} {np pos:Pos} {e:PySem.Expr} {K1:Value→Fz→Shared→Prop} {P:List D→Prop} (hf:EvV w env n N ρ (.Name x np) (.type "list")) (he:EvK w env n N ρ e (fun _=>K1)) (ht:backTo pos (starEach [e] env)=[(false,eval e env)])
  (h:∀ v G s,Inn G s.heap→K1 v G s→∃ ad o vs m ds,v=.ref ad∧s.heap.get? ad=some o∧(o=lstO vs m∨o=tupO vs m)∧RepL w.params G vs.toList ds∧ds.length≤1000000∧P ds):EvL w env n N ρ (.Call (.Name x np) [e] [] pos) P:=
 fun A G₀ s₀ M G s Q E a b c k=>by
 refine wpAny_Call_ofName (hf A G₀ s₀ M G s _ E a b c fun v G1 s1 y1 z1 e=>?_)
 subst e
 rw [ht]
 refine PySem.callWith_type1 (he A G₀ s₀ M G1 s1 _ E a b z1 fun v G2 s2 y2 z2 q2=>?_)
 obtain ⟨ad,o,vs,m,ds,rfl,ho,hk,r,hb,hp⟩:=h v G2 s2 z2.step.inn q2
 have y:=y1.trans y2 fun q hq=>.inl hq
 have hlen:=r.arr
 have fin:∀ h' c',(∀ b o',s2.heap.get? b=some o'→h'.get? b=some o')→h'.get? s2.heap.objs.size=some {cls:=.type "list",dict:=none,data:=.seq vs c',slots:=#[]}→Q (.ref s2.heap.objs.size) {s2 with heap:=h'}:=fun h' c' hk hD=>by
  have y3:Step G2 s2 [] G2 {s2 with heap:=h'}:=Step.of_keeps z2.step.inn ⟨h',s2.toks,rfl,hk⟩
  refine k _ _ _ (y.trans y3 fun _ h=>nomatch h) (z2.pure y3) ⟨_,vs,c',ds,rfl,Classical.byContradiction fun q=>y.dom _ q (fresh_size _),?_,hD,r,hp⟩
  cases q:G2 s2.heap.objs.size with
  | none=>rfl
  | some o=>have:=z2.step.inn _ _ q;rw [fresh_size] at this;cases this
 rcases hk with rfl | rfl
 ·exact call_list_seq ad (.inl rfl) ho rfl rfl fin (by rw [sizeLine_eq];exact qk ‹_› ‹_›)
 ·exact call_list_seq ad (.inr rfl) ho rfl rfl fin (by rw [sizeLine_eq];exact qk ‹_› ‹_›)
theorem KD.tupK {P:D→Prop} {P':List D→Prop} (h:∀ d,P d→E1 .tup d fun l=>l.length≤1000000∧P' l):∀ v G (s:Shared),Inn G s.heap→KD w P v G s→∃ ad o vs m ds,v=.ref ad∧s.heap.get? ad=some o∧(o=lstO vs m∨o=tupO vs m)∧RepL w.params G vs.toList ds∧ds.length≤1000000∧P' ds:=
 fun v G s i ⟨d,r,p⟩=>by
  obtain ⟨l,rfl,hb,hp⟩:=h d p
  replace r:=r.inv;obtain ⟨a,vs,m,rfl,hg,r⟩:=r
  exact ⟨a,_,vs,m,l,rfl,i _ _ hg,.inr rfl,r,hb,hp⟩
theorem trs1 {e:PySem.Expr} {P1:D→Prop} {P:List D→Prop} (h1:Ev w env n N ρ e P1) (h:∀ d,P1 d→P [d]):Trs w env n N ρ [(false,eval e env)] P:=trs_one h1 h
theorem pu_tup {value:PySem.Expr} {k:Nat} {kk p pos} {l:List D} {d:D} (hv:Ev w env n N ρ value (fun x=>x=.tup l)) (hb:l.length≤1000000) (hd:l[k]? = some d):Ev w env n N ρ (.Subscript value (.Constant (.int (k:Int)) kk p) pos) (fun x=>x=d):=
 ev_sub_tup hv ev_int (by
  rintro _ _ rfl rfl
  have hlt:k < l.length:=(List.getElem?_eq_some_iff.mp hd).1
  exact ⟨l,k,k,d,rfl,rfl,hb,by unfold idx;simp [hlt],hd,rfl⟩)
structure Dc where
 spot:Int
 disj:Bool
 fields:List Str
noncomputable def encDc (d:Dc):D:=.tup [.int d.spot,.bool d.disj,.tup (d.fields.map .str),.str "",.tup [.str "name",.int 0,.str "A"]]
structure Sg where
 spot:Int
 names:List Str
 abs:Bool
 parent:Str
 sups:List Str
 decls:List Dc
noncomputable def encS (t:Sg):D:=.tup [.str "sig",.int t.spot,.tup (t.names.map .str),.bool t.abs,.str "",.str t.parent,.tup (t.sups.map .str),.tup (t.decls.map encDc),.tup []]
noncomputable def Sg.up (t:Sg):List Str:=(if t.parent = "" then [] else [t.parent])++t.sups
set_option maxHeartbeats 1000000 in
theorem c_direct (t:Sg) (hb:t.sups.length≤1000) {G:Fz} {s:Shared} {vs:List Value} (i:Inn G s.heap) (b:Bs w G) (r:RepL w.params G vs [encS t]) :
  Op w (n+1) [] G s (call (.ref 297) vs) (KL w (fun l=>l=t.up.map .str) s):=by
 refine op_dat ff_direct ["item"] (bind1 fun _=>rfl) (by decide) (by decide +kernel) i b r rfl ?_
 rintro env A s₁ Q E rfl a c k
 have hname:∀ {pos},Ev w (callEnvC (lawFd 14 "_law_direct" 296) s.heap.objs.size 297) n [] (rhoOf w.params ["item"] [encS t]) (.Name "item" pos) (fun x=>x=encS t):=ev_name (.head _) rfl
 refine st_ret a noN c (K:=KL w (fun l=>l=t.up.map .str)) ?_ fun v G' s' y z q=>k _ _ _ z.step (q.early ?_)
 ·refine evl_add (P1:=fun l=>l=(if t.parent = "" then [] else [t.parent]).map .str) (P2:=fun l=>l=t.sups.map .str) ?_ ?_ (by rintro _ _ rfl rfl;refine ⟨?_,by unfold Sg.up;simp⟩;simp;split<;>simp<;>omega)
  ·refine EvL.evs (evl_if (P1:=fun b=>b=(t.parent != "")) (tr_ne_str (pu_tup hname (by simp) rfl) ev_str (by exact fun _ _ a b=>⟨_,_,a,b,rfl⟩)) (fun h=>?_) (fun h=>?_))
   ·refine evl_list (trs1 (pu_tup hname (by simp) rfl) ?_)
    rintro _ rfl
    have:¬ t.parent = "":=by simpa using h.symm
    rw [if_neg this];rfl
   ·refine evl_list (trs_nil ?_)
    have:t.parent = "":=by simpa using h.symm
    rw [if_pos this];rfl
  ·exact EvL.evs (evl_list_of (evv_blt rfl rfl rfl rfl rfl rfl) (pu_tup hname (by simp) rfl) rfl (KD.tupK fun d h=>⟨_,h,by simp;exact q1 ‹_›,rfl⟩))
 ·exact c.step.dom
end Mine
end
section
namespace Mine
variable {w:World} {env:Env} {n:Nat} {N:List Addr} {ρ:Rho}
mutual
noncomputable def toPy:D→PyData
 | .none=>.none
 | .bool b=>.bool b
 | .int i=>.int i
 | .str x=>.str x
 | .tup l=>.tuple (toPys l)
 | .lst l=>.list (toPys l)
 | .dct _=>.none
 | .adr _=>.none
noncomputable def toPys:List D→List PyData
 | []=>[]
 | d::ds=>toPy d::toPys ds
end
mutual
noncomputable def flat:Nat→D→Bool
 | _,.none=>true
 | _,.bool _=>true
 | _,.int _=>true
 | _,.str x=>PyData.strOk x
 | k,.tup l=>(match k with | 0=>false | k+1=>flats k l)
 | k,.lst l=>(match k with | 0=>false | k+1=>flats k l)
 | _,.dct _=>false
 | _,.adr _=>false
noncomputable def flats:Nat→List D→Bool
 | _,[]=>true
 | k,d::ds=>flat k d&&flats k ds
end
theorem flat_rec {C:Nat→D→Prop} {CL:Nat→List D→Prop} (hn:∀ k,C k .none) (hb:∀ k b,C k (.bool b)) (hi:∀ k i,C k (.int i)) (hs:∀ k x,PyData.strOk x=true→C k (.str x))
  (ht:∀ k l,CL k l→C (k+1) (.tup l)) (hl:∀ k l,CL k l→C (k+1) (.lst l)) (hN:∀ k,CL k []) (hC:∀ k d ds,C k d→CL k ds→CL k (d::ds)):(∀ k d,flat k d=true→C k d)∧∀ k ds,flats k ds=true→CL k ds:=by
 have L:∀ k,(∀ d,flat k d=true→C k d)→∀ ds,flats k ds=true→CL k ds:=fun k h ds=>by
  induction ds with
  | nil=>exact fun _=>hN k
  | cons d ds ih=>
   intro e
   have e:=Bool.and_eq_true_iff.mp (show (flat k d&&flats k ds)=true from e)
   exact hC k d ds (h d e.1) (ih e.2)
 have H:∀ k d,flat k d=true→C k d:=fun k=>by
  induction k with
  | zero=>
   intro d e
   cases d with
   | none=>exact hn _
   | bool=>exact hb _ _
   | int=>exact hi _ _
   | str=>exact hs _ _ e
   | _=>cases (show false=true from e)
  | succ k ih=>
   intro d e
   cases d with
   | none=>exact hn _
   | bool=>exact hb _ _
   | int=>exact hi _ _
   | str=>exact hs _ _ e
   | tup l=>exact ht k l (L k ih l e)
   | lst l=>exact hl k l (L k ih l e)
   | _=>cases (show false=true from e)
 exact ⟨H,fun k=>L k (H k)⟩
theorem reads_both {G:Fz} {h:Heap} (i:Inn G h):(∀ k d,flat k d=true→∀ v,Rep w.params G v d→∃ as,Reads h v (toPy d) as)∧∀ k ds,flats k ds=true→∀ vs,RepL w.params G vs ds→∃ as,ReadsAll h vs (toPys ds) as:=by
 refine flat_rec (fun k v r=>?_) (fun k b v r=>?_) (fun k i v r=>?_) (fun k x _ v r=>?_) (fun k l ih v r=>?_) (fun k l ih v r=>?_) (fun k vs r=>?_) (fun k d ds ih ihs vs r=>?_)
 ·obtain ⟨_,rfl⟩:=r.inv;rw [toPy];exact ⟨_,Reads.none⟩
 ·obtain ⟨_,rfl⟩:=r.inv;rw [toPy];exact ⟨_,Reads.bool b⟩
 ·obtain ⟨t,rfl⟩:=r.inv;rw [toPy];exact ⟨_,Reads.int _ t⟩
 ·obtain ⟨t,rfl⟩:=r.inv;rw [toPy];exact ⟨_,Reads.str x t⟩
 ·replace r:=r.inv;obtain ⟨a,vs,n,rfl,hg,r⟩:=r
  obtain ⟨as,q⟩:=ih _ r
  rw [toPy]
  exact ⟨as,reads_tuple_at (i _ _ hg) rfl rfl q⟩
 ·replace r:=r.inv;obtain ⟨a,vs,n,rfl,hg,r⟩:=r
  obtain ⟨as,q⟩:=ih _ r
  rw [toPy]
  exact ⟨_,reads_list_at (i _ _ hg) rfl rfl q⟩
 ·obtain ⟨_,rfl⟩:=r.inv;rw [toPys];exact ⟨_,ReadsAll.nil⟩
 ·obtain ⟨v,l,rfl,h1,h2⟩:=r.inv
  obtain ⟨as,q⟩:=ih v h1
  obtain ⟨bs,p⟩:=ihs l h2
  rw [toPys]
  exact ⟨_,ReadsAll.cons q p⟩
theorem rep_reads {G:Fz} {h:Heap} (i:Inn G h) {v:Value} {d:D} (k:Nat) (r:Rep w.params G v d) (hk:flat k d=true):∃ as,Reads h v (toPy d) as:=(reads_both i).1 k d hk v r
theorem reps_reads {G:Fz} {h:Heap} (i:Inn G h) {vs:List Value} {ds:List D} (k:Nat) (r:RepL w.params G vs ds) (hk:flats k ds=true):∃ as,ReadsAll h vs (toPys ds) as:=(reads_both i).2 k ds hk vs r
theorem lay_both:(∀ k d,flat k d=true→(toPy d).canLay0=true∧(toPy d).depth≤k)∧∀ k ds,flats k ds=true→PyData.canLayAll0 (toPys ds)=true∧PyData.depthAll (toPys ds)≤k:=by
 refine flat_rec (fun k=>?_) (fun k b=>?_) (fun k i=>?_) (fun k x h=>?_) (fun k l h=>?_) (fun k l h=>?_) (fun k=>?_) (fun k d ds h1 h2=>?_)
 ·rw [toPy];exact ⟨rfl,Nat.zero_le _⟩
 ·rw [toPy];exact ⟨rfl,Nat.zero_le _⟩
 ·rw [toPy];exact ⟨rfl,Nat.zero_le _⟩
 ·rw [toPy];exact ⟨h,Nat.zero_le _⟩
 ·simp only [toPy,PyData.canLay0,PyData.depth,h.1,true_and];have:=h.2;omega
 ·simp only [toPy,PyData.canLay0,PyData.depth,h.1,true_and];have:=h.2;omega
 ·rw [toPys];exact ⟨rfl,Nat.zero_le _⟩
 ·simp only [toPys,PyData.canLayAll0,PyData.depthAll,h1.1,h2.1,Bool.and_self,true_and]
  exact Nat.max_le.mpr ⟨h1.2,h2.2⟩
theorem flat_lay (k:Nat) (d:D) (h:flat k d=true):(toPy d).canLay0=true∧(toPy d).depth≤k:=lay_both.1 k d h
theorem flats_lay (k:Nat) (ds:List D) (h:flats k ds=true):PyData.canLayAll0 (toPys ds)=true∧PyData.depthAll (toPys ds)≤k:=lay_both.2 k ds h
theorem eqv_both:(∀ k d,flat k d=true→PyData.eqv (toPy d) (toPy d)=true)∧∀ k ds,flats k ds=true→PyData.eqvAll (toPys ds) (toPys ds)=true:=by
 refine flat_rec (fun k=>?_) (fun k b=>?_) (fun k i=>?_) (fun k x h=>?_) (fun k l h=>?_) (fun k l h=>?_) (fun k=>?_) (fun k d ds h1 h2=>?_)
 ·simp [toPy,PyData.eqv]
 ·simp [toPy,PyData.eqv]
 ·simp [toPy,PyData.eqv]
 ·simp [toPy,PyData.eqv]
 ·simpa only [toPy,PyData.eqv] using h
 ·simpa only [toPy,PyData.eqv] using h
 ·simp [toPys,PyData.eqvAll]
 ·simp [toPys,PyData.eqvAll,h1,h2]
theorem eqv_refl (k:Nat) (d:D) (h:flat k d=true):PyData.eqv (toPy d) (toPy d)=true:=eqv_both.1 k d h
theorem shaped_of {k:Nat} {d:D} (h:flat k d=true) (hk:k≤64):SeqAt.shaped (toPy d)=true:=by
 have:=flat_lay k d h
 unfold SeqAt.shaped
 rw [this.1,Bool.true_and]
 exact decide_eq_true (Nat.le_trans this.2 hk)
theorem eqv_nil (l:List D):PyData.eqvAll (toPys l) []=l.isEmpty:=by cases l<;>simp [toPys,PyData.eqvAll]
inductive KR (w:World) (P:D→Prop) (v:Value) (G:Fz) (s:Shared):Prop
 | mk (d:D) (as:List Addr) (k:Nat):Reads s.heap v (toPy d) as→flat k d=true→k≤20→P d→KR w P v G s
theorem KR.step {P:D→Prop}:∀ v G (s:Shared) G' s',KR w P v G s→Step G s [] G' s'→KR w P v G' s':=fun _ _ _ _ _ ⟨d,as,k,r,h,h1,h2⟩ y=>⟨d,as,k,PyProof.Rows.Reads.keeps (fun b o e=>y.keep b o (fun h=>(nomatch h)) e) r,h,h1,h2⟩
noncomputable abbrev EvR (w:World) (env:Env) (n:Nat) (N:List Addr) (ρ:Rho) (e:PySem.Expr) (P:D→Prop):=EvK w env n N ρ e (fun _=>KR w P)
theorem Ev.r {e:PySem.Expr} {P P':D→Prop} (k:Nat) (he:Ev w env n N ρ e P) (h:∀ d,P d→flat k d=true∧P' d) (hk:k≤20:=by decide):EvR w env n N ρ e P':=
 he.mono fun _ v G s i ⟨d,r,p⟩=>let ⟨as,q⟩:=rep_reads i k r (h d p).1;⟨d,as,k,q,(h d p).1,hk,(h d p).2⟩
theorem EvS.r {e:PySem.Expr} {P:List D→Prop} {P':D→Prop} (k:Nat) (he:EvS w env n N ρ e P) (h:∀ l,P l→flats k l=true∧P' (.lst l)) (hk:k≤19:=by decide):EvR w env n N ρ e P':=
 he.mono fun _ v G s i ⟨a,vs,m,l,e1,hg,r,p⟩=>by
  obtain ⟨as,q⟩:=reps_reads i k r (h l p).1
  subst e1
  refine ⟨.lst l,a::as,k+1,?_,by simp [flat,(h l p).1],by exact q7 ‹_›,(h l p).2⟩
  rw [toPy]
  exact reads_list_at hg rfl rfl q
theorem AOK.u {A:Around} (a:AOK n A):A.units+64 < cLine:=by have:=a.2.1;show _ < 9900;omega
theorem tr_eqR {l r pos} {P1 P2:D→Prop} {P:Bool→Prop} (hl:EvR w env n [] ρ l P1) (hr:EvR w env n [] ρ r P2) (h:∀ d1 d2,P1 d1→P2 d2→P (PyData.eqv (toPy d1) (toPy d2))):Tr w env n [] ρ (.Compare l [.Eq] [r] pos) P:=
 tr_cmp (hm:=bim_of (by decide) (by decide)) hl hr KR.step fun G s v1 v2 i _ ⟨d1,as,k1,r1,f1,b1,p1⟩ ⟨d2,bs,k2,r2,f2,b2,p2⟩=>
  .cmp i (h _ _ p1 p2) fun A Q E a q=>PyProof.Rows.eq_dataH r1 r2 (shaped_of f1 (by exact q1 ‹_›)) (shaped_of f2 (by exact q1 ‹_›)) a.u q
theorem tr_neR {l r pos} {P1 P2:D→Prop} {P:Bool→Prop} (hl:EvR w env n [] ρ l P1) (hr:EvR w env n [] ρ r P2) (h:∀ d1 d2,P1 d1→P2 d2→P (!PyData.eqv (toPy d1) (toPy d2))):Tr w env n [] ρ (.Compare l [.NotEq] [r] pos) P:=
 tr_cmp (hm:=bim_of (by decide) (by decide)) hl hr KR.step fun G s v1 v2 i _ ⟨d1,as,k1,r1,f1,b1,p1⟩ ⟨d2,bs,k2,r2,f2,b2,p2⟩=>
  .cmp i (h _ _ p1 p2) fun A Q E a q=>PyProof.Rows.ne_dataH r1 r2 (shaped_of f1 (by exact q1 ‹_›)) (shaped_of f2 (by exact q1 ‹_›)) a.u q
theorem ev_neR {l r pos} {P1 P2:D→Prop} {P:Bool→Prop} (hl:EvR w env n [] ρ l P1) (hr:EvR w env n [] ρ r P2) (h:∀ d1 d2,P1 d1→P2 d2→P (!PyData.eqv (toPy d1) (toPy d2))):Ev w env n [] ρ (.Compare l [.NotEq] [r] pos) (fun d=>∃ b,d=.bool b∧P b):=
 ev_cmp (hm:=bim_of (by decide) (by decide)) hl hr KR.step fun G s v1 v2 i _ ⟨d1,as,k1,r1,f1,b1,p1⟩ ⟨d2,bs,k2,r2,f2,b2,p2⟩=>
  .cmp i (h _ _ p1 p2) fun A Q E a q=>PyProof.Rows.ne_dataH r1 r2 (shaped_of f1 (by exact q1 ‹_›)) (shaped_of f2 (by exact q1 ‹_›)) a.u q
theorem any_strs (ss:List Str) (x:Str):((toPys (ss.map .str)).any fun y=>PyData.eqv y (.str x))=decide (x∈ss):=by
 induction ss with
 | nil=>simp [toPys]
 | cons y ss ih=>
  simp only [List.map_cons,toPys,List.any_cons,ih,toPy,PyData.eqv]
  by_cases h:y=x
  ·simp [h]
  ·simp [h,Ne.symm h]
theorem strs_flat {ss:List Str} (h:∀ x∈ss,PyData.strOk x=true) (k:Nat):flats k (ss.map .str)=true:=by
 induction ss with
 | nil=>simp [flats]
 | cons y ss ih=>
  simp only [List.map_cons,flats,ih (fun x hx=>h x (.tail _ hx)),Bool.and_true]
  have:=h y (.head _)
  cases k<;>simpa [flat] using this
inductive KSs (w:World) (P:List Str→Prop) (v:Value) (G:Fz) (s:Shared):Prop
 | mk (ss:List Str) (as:List Addr):(Reads s.heap v (.list (toPys (ss.map .str))) as∨Reads s.heap v (.tuple (toPys (ss.map .str))) as)→(∀ x∈ss,PyData.strOk x=true)→P ss→KSs w P v G s
noncomputable abbrev EvSs (w:World) (env:Env) (n:Nat) (N:List Addr) (ρ:Rho) (e:PySem.Expr) (P:List Str→Prop):=EvK w env n N ρ e (fun _=>KSs w P)
theorem EvS.ss {e:PySem.Expr} {P:List D→Prop} {P':List Str→Prop} (he:EvS w env n N ρ e P) (h:∀ l,P l→∃ ss:List Str,l=ss.map .str∧(∀ x∈ss,PyData.strOk x=true)∧P' ss):EvSs w env n N ρ e P':=
 he.mono fun _ v G s i ⟨a,vs,m,l,e1,hg,r,p⟩=>by
  obtain ⟨ss,rfl,h1,h2⟩:=h l p
  obtain ⟨as,q⟩:=reps_reads i 1 r (strs_flat h1 1)
  subst e1
  exact ⟨ss,a::as,.inl (reads_list_at hg rfl rfl q),h1,h2⟩
theorem Ev.ss {e:PySem.Expr} {P:D→Prop} {P':List Str→Prop} (he:Ev w env n N ρ e P) (h:∀ d,P d→∃ ss:List Str,d=.tup (ss.map .str)∧(∀ x∈ss,PyData.strOk x=true)∧P' ss):EvSs w env n N ρ e P':=
 he.mono fun _ v G s i ⟨d,r,p⟩=>by
  obtain ⟨ss,rfl,h1,h2⟩:=h d p
  replace r:=r.inv;obtain ⟨a,vs,m,rfl,hg,r⟩:=r
  ·
   obtain ⟨as,q⟩:=reps_reads i 1 r (strs_flat h1 1)
   exact ⟨ss,as,.inr (reads_tuple_at (i _ _ hg) rfl rfl q),h1,h2⟩
theorem in_strs {A:Around} {Q:Value→Shared→Prop} {E:Value→Shared→Prop} {s:Shared} {v c:Value} {ss:List Str} {as:List Addr} {x:Str} {t:Tok} (a:AOK n A) (hr:Reads s.heap c (.list (toPys (ss.map .str))) as∨Reads s.heap c (.tuple (toPys (ss.map .str))) as)
  (hs:∀ x∈ss,PyData.strOk x=true) (hx:PyData.strOk x=true):(Q (.bool (decide (x∈ss))) s→wpAny (model pw w) A (compareOp .In (.str x t) c) Q E s)∧(Q (.bool (!decide (x∈ss))) s→wpAny (model pw w) A (compareOp .NotIn (.str x t) c) Q E s):=by
 have lay:=flats_lay 1 _ (strs_flat hs 1)
 have hu:A.units+1+min (PyData.depthAll (toPys (ss.map D.str))) (PyData.depth (.str x)) < cLine:=by
  have:=a.u
  have h2:=lay.2
  have:=Nat.min_le_left (PyData.depthAll (toPys (ss.map D.str))) (PyData.depth (.str x))
  omega
 have hx0:(PyData.str x).canLay0=true:=by simpa [PyData.canLay0] using hx
 refine ⟨fun q=>?_,fun q=>?_⟩
 ·rcases hr with r | r
  ·exact SeqAt.in_list_reads r (.str x t) lay.1 hx0 hu (by rw [any_strs];exact q)
  ·exact SeqAt.in_tuple_reads r (.str x t) lay.1 hx0 hu (by rw [any_strs];exact q)
 ·rcases hr with r | r
  ·exact SeqAt.notIn_list_reads r (.str x t) lay.1 hx0 hu (by rw [any_strs];exact q)
  ·exact SeqAt.notIn_tuple_reads r (.str x t) lay.1 hx0 hu (by rw [any_strs];exact q)
theorem tr_in {l r pos} {P1:D→Prop} {P2:List Str→Prop} {P:Bool→Prop} (hl:Ev w env n [] ρ l P1) (hr:EvSs w env n [] ρ r P2) (h:∀ d ss,P1 d→P2 ss→E1 .str d fun x=>PyData.strOk x=true∧P (decide (x∈ss))) (hm:behindInMarks .In r=false:=by with_unfolding_all rfl):Tr w env n [] ρ (.Compare l [.In] [r] pos) P:=
 tr_cmp (hm:=hm) hl hr KD.step fun G s v1 v2 i _ ⟨d1,r1,p1⟩ ⟨ss,as,r2,hs,p2⟩=>by
  obtain ⟨x,rfl,hx,hp⟩:=h _ _ p1 p2
  obtain ⟨_,rfl⟩:=r1.inv
  exact .cmp i hp fun A Q E a q=>(in_strs (v:=.none) a r2 hs hx).1 q
theorem tr_notIn {l r pos} {P1:D→Prop} {P2:List Str→Prop} {P:Bool→Prop} (hl:Ev w env n [] ρ l P1) (hr:EvSs w env n [] ρ r P2) (h:∀ d ss,P1 d→P2 ss→E1 .str d fun x=>PyData.strOk x=true∧P (!decide (x∈ss))) (hm:behindInMarks .NotIn r=false:=by with_unfolding_all rfl):Tr w env n [] ρ (.Compare l [.NotIn] [r] pos) P:=
 tr_cmp (hm:=hm) hl hr KD.step fun G s v1 v2 i _ ⟨d1,r1,p1⟩ ⟨ss,as,r2,hs,p2⟩=>by
  obtain ⟨x,rfl,hx,hp⟩:=h _ _ p1 p2
  obtain ⟨_,rfl⟩:=r1.inv
  exact .cmp i hp fun A Q E a q=>(in_strs (v:=.none) a r2 hs hx).2 q
end Mine
end
section
namespace Mine
variable {w:World} {env:Env} {n:Nat} {N:List Addr} {ρ:Rho}
structure LK (w:World) (a:Addr) (ds ds':List D) (K K':Kd):Prop where
 get:∀ v G h,K.p v G h→∃ vs m,h.get? a=some (lstO vs m)∧RepL w.params G vs.toList ds
 put:∀ v G h h',K.p v G h→(∃ vs m,h'.get? a=some (lstO vs m)∧RepL w.params G vs.toList ds')→K'.p v G h'
 ow:K.ow=[a]
 ow':K'.ow=[a]
 fp:K.fp=[a]
 fp':K'.fp=[a]
theorem lkO {a:Addr} {ds ds':List D}:LK w a ds ds' (own w.params a ds) (own w.params a ds'):=⟨fun _ _ _ h=>h.2,fun _ _ _ _ h x=>⟨h.1,x⟩,rfl,rfl,rfl,rfl⟩
theorem lkN {a:Addr} {ds ds':List D}:LK w a ds ds' (accK w a ds) (accK w a ds'):=⟨fun _ _ _ h=>h,fun _ _ _ _ _ x=>x,rfl,rfl,rfl,rfl⟩
theorem St.read {G₀ G:Fz} {s₀ s:Shared} {M:List Addr} {nm:Option Str} {a:Addr} {ds ds':List D} {K K':Kd} (c:St w env G₀ s₀ M ρ G s) (hm:(nm,K)∈ρ) (lk:LK w a ds ds' K K'):∃ vs m,s.heap.get? a=some (lstO vs m)∧RepL w.params G vs.toList ds:=by
 have:=c.vars _ hm
 cases nm with
 | none=>exact lk.get _ _ _ this
 | some x=>obtain ⟨v,_,h⟩:=this;exact lk.get _ _ _ h
theorem St.lst {G₀ G:Fz} {s₀ s:Shared} {M:List Addr} {ρ':Rho} {nm:Option Str} {a:Addr} {ds ds':List D} {K K':Kd} {vs:Array Value} {m:Nat} (c:St w env G₀ s₀ M ρ G s) (sw:Swap (nm,K) (nm,K') ρ ρ') (lk:LK w a ds ds' K K')
  (hg:s.heap.get? a=some (lstO vs m)) (f:Array Value→Array Value) (r:RepL w.params G (f vs).toList ds'):St w env G₀ s₀ M ρ' G {s with heap:=s.heap.update a (Obj.mapSeq f)}:=by
 have hI:IsL (s.heap.update a (Obj.mapSeq f)) a (f vs) _:=IsL.update (show IsL s.heap a vs m from hg) f
 refine c.chgAt sw (I:=a) (by rw [lk.ow];simp) (fun b o hb e=>(Heap.get?_update_other _ _ (Ne.symm hb)).trans e) (by rw [hI];exact (fun h=>(nomatch h))) (by rw [lk.fp,lk.fp']) (by rw [lk.ow,lk.ow']) (fun v h=>lk.put _ _ _ _ h ⟨_,_,hI,r⟩) s.toks
section
variable {A:Around} {G₀ G:Fz} {s₀ s:Shared} {M:List Addr} {Q:Flow→Shared→Prop} {E:Value→Shared→Prop}
theorem meth1 {o e:PySem.Expr} {nm:Str} {apos pos:Pos} {id:String} {l:Addr} {Q:Value→Shared→Prop} (slot:Slot "list" nm id) (hty:typeOf (.builtin id)=pure (.type "method_descriptor"))
  (hbase:attributeBase o nm env (eval o env)=eval o env) (hline:(apos.endLine==pos.line)=true) (ht:backTo pos (starEach [e] env)=[(false,eval e env)])
  (h:wpAny (model pw w) A (eval o env) (fun ov s₁=>ov=.ref l∧(∃ vs m,s₁.heap.get? l=some (lstO vs m))∧wpAny (model pw w) A (callWith pos (.builtin id) [.ref l] [(false,eval e env)] []) Q E s₁) E s) :
  wpAny (model pw w) A (eval (.Call (.Attribute o nm apos) [e] [] pos) env) Q E s:=
 wpAny_Call_method1_late hbase hline ht (wpAny_mono h (fun ov s1 ⟨e1,⟨vs,m,hg⟩,hc⟩=>by
  subst e1
  exact ⟨_,_,PySem.F.plainAttrs_list,slot,hty,⟨_,hg,rfl⟩,fun a e=>by cases e;exact ⟨_,hg,rfl⟩,hc⟩) fun _ _ x=>x)
theorem meth0 {o:PySem.Expr} {nm:Str} {apos pos:Pos} {id:String} {l:Addr} {Q:Value→Shared→Prop} (slot:Slot "list" nm id) (hty:typeOf (.builtin id)=pure (.type "method_descriptor"))
  (hbase:attributeBase o nm env (eval o env)=eval o env) (hline:(apos.endLine==pos.line)=true)
  (h:wpAny (model pw w) A (eval o env) (fun ov s₁=>ov=.ref l∧(∃ vs m,s₁.heap.get? l=some (lstO vs m))∧wpAny (model pw w) A (callWith pos (.builtin id) [.ref l] [] []) Q E s₁) E s) :
  wpAny (model pw w) A (eval (.Call (.Attribute o nm apos) [] [] pos) env) Q E s:=
 wpAny_Call_method0_late hbase hline (wpAny_mono h (fun ov s1 ⟨e1,⟨vs,m,hg⟩,hc⟩=>by
  subst e1
  exact ⟨_,_,PySem.F.plainAttrs_list,slot,hty,⟨_,hg,rfl⟩,fun a e=>by cases e;exact ⟨_,hg,rfl⟩,hc⟩) fun _ _ x=>x)
theorem st_app {o e:PySem.Expr} {apos cpos pos:Pos} {rest:List Stmt} {nm:Option Str} {l:Addr} {ds:List D} {K:Kd} {Ks:D→Kd} {ρs:D→Rho} {P:D→Prop} (a:AOK n A) (c:St w env G₀ s₀ M ρ G s)
  (ho:EvV w env n [] ρ o (.ref l)) (sw:∀ d,Swap (nm,K) (nm,Ks d) ρ (ρs d)) (lk:∀ d,LK w l ds (ds++[d]) K (Ks d)) (he:Ev w env n [] ρ e P) (hlen:ds.length≤1000000)
  (k:∀ d G' s',P d→St w env G₀ s₀ M (ρs d) G' s'→wpAny (model pw w) A (execs rest env) Q E s')
  (hbase:attributeBase o "append" env (eval o env)=eval o env:=by rfl) (hline:(apos.endLine==cpos.line)=true:=by rfl) (ht:backTo cpos (starEach [e] env)=[(false,eval e env)]:=by rfl) (hi:interactive env=false:=by rfl) :
  wpAny (model pw w) A (execs (.Expr (.Call (.Attribute o "append" apos) [e] [] cpos) pos::rest) env) Q E s:=
 wpAny_execs_cons (wpAny_Expr_any (hi:=hi) (meth1 PySem.F.slot_list_append PySem.F.type_list_append hbase hline ht (ho A G₀ s₀ M G s _ E a noN c fun v G1 s1 y1 c1 e1=>by
  obtain ⟨vs,m,hg,_⟩:=c1.read (sw .none).mem (lk .none)
  refine ⟨e1,⟨vs,m,hg⟩,PySem.P.append_list (he A G₀ s₀ M G1 s1 _ E a noN c1 fun v G2 s2 y2 c2 ⟨d,rd,pd⟩=>?_)⟩
  obtain ⟨vs,m,hg,r⟩:=c2.read (sw d).mem (lk d)
  have hl:=r.arr
  exact ⟨vs,m,by rw [sizeLine_eq];exact qk ‹_› ‹_›,hg,k d G2 _ pd (c2.lst (sw d) (lk d) hg (fun xs=>xs.push v) (by simpa using r.append (.cons rd .nil)))⟩)))
theorem st_ext {o e:PySem.Expr} {apos cpos pos:Pos} {rest:List Stmt} {nm:Option Str} {l:Addr} {ds:List D} {K:Kd} {Ks:List D→Kd} {ρs:List D→Rho} {P:List D→Prop} (a:AOK n A) (c:St w env G₀ s₀ M ρ G s)
  (ho:EvV w env n [] ρ o (.ref l)) (sw:∀ d,Swap (nm,K) (nm,Ks d) ρ (ρs d)) (lk:∀ d,LK w l ds (ds++d) K (Ks d)) (he:EvS w env n [] ρ e P) (hlen:∀ d,P d→ds.length+d.length≤1000000)
  (k:∀ d G' s',P d→St w env G₀ s₀ M (ρs d) G' s'→wpAny (model pw w) A (execs rest env) Q E s')
  (hbase:attributeBase o "extend" env (eval o env)=eval o env:=by rfl) (hline:(apos.endLine==cpos.line)=true:=by rfl) (ht:backTo cpos (starEach [e] env)=[(false,eval e env)]:=by rfl) (hi:interactive env=false:=by rfl) :
  wpAny (model pw w) A (execs (.Expr (.Call (.Attribute o "extend" apos) [e] [] cpos) pos::rest) env) Q E s:=
 wpAny_execs_cons (wpAny_Expr_any (hi:=hi) (meth1 PySem.F.slot_list_extend PySem.F.type_list_extend hbase hline ht (ho A G₀ s₀ M G s _ E a noN c fun v G1 s1 y1 c1 e1=>by
  obtain ⟨vs,m,hg,_⟩:=c1.read (sw []).mem (lk [])
  refine ⟨e1,⟨vs,m,hg⟩,PySem.P.extend_list (he A G₀ s₀ M G1 s1 _ E a noN c1 fun v G2 s2 y2 c2 ⟨b,vs2,m2,d,e2,hg2,r2,pd⟩=>?_)⟩
  obtain ⟨vs,m,hg,r⟩:=c2.read (sw d).mem (lk d)
  have hl:=r.arr
  have hl2:=r2.arr
  have hd:=hlen d pd
  have hz:sizeLine=16777216:=by rw [sizeLine_eq]
  refine ⟨b,vs,vs2,m,m2,by omega,by omega,?_,e2,hg,hg2,k d G2 _ pd (c2.lst (sw d) (lk d) hg (fun xs=>xs++vs2) (by simpa using r.append r2))⟩
  simp only [Builtin.List.listTooLong,Bool.and_eq_true,decide_eq_true_eq,not_and]
  intro _
  omega)))
end
end Mine
end
section
namespace Mine
variable {w:World} {env:Env} {n:Nat} {N:List Addr} {ρ:Rho}
section
variable {A:Around} {G₀ G:Fz} {s₀ s:Shared} {M:List Addr} {Q:Flow→Shared→Prop} {E:Value→Shared→Prop}
theorem st_while {X:Type} {test:PySem.Expr} {body rest:List Stmt} {pos:Pos} (a:AOK n A) (hN:∀ a∈N,a∈M) (μ:X→Nat) (P:X→Prop) (ρI:X→Rho) (t:X→Bool) (x₀:X) (c:St w env G₀ s₀ M (ρI x₀) G s) (hx:P x₀)
  (ht:∀ x,P x→Tr w env n N (ρI x) test (fun b=>b=t x))
  (turn:∀ x G' s',P x→t x=true→St w env G₀ s₀ M (ρI x) G' s'→wpAny (model pw w) A (execs body env) (fun f s3=>match f with
    | .next | .cont=>∃ x' G3,μ x' < μ x∧P x'∧St w env G₀ s₀ M (ρI x') G3 s3
    | .brk=>False
    | .ret v=>Q (.ret v) s3) (EFor w A env E) s')
  (done:∀ x G' s',P x→t x=false→St w env G₀ s₀ M (ρI x) G' s'→wpAny (model pw w) A (execs rest env) Q E s') :
  wpAny (model pw w) A (execs (.While test body [] pos::rest) env) Q E s:=by
 refine wpAny_execs_cons (wpAny_While ?_)
 refine codeAny_whileLoop (fun k s2=>∃ x G2,k=μ x∧P x∧St w env G₀ s₀ M (ρI x) G2 s2) ?_ (μ x₀) ⟨x₀,G,rfl,hx,c⟩
 rintro k s2 ⟨x,G2,rfl,hp,c2⟩
 refine ht x hp A G₀ s₀ M G2 s2 _ _ a hN c2 fun b G3 s3 y3 c3 e=>?_
 subst e
 cases hb:t x with
 | true=>
  rw [if_pos rfl]
  refine wpAny_mono (turn x G3 s3 hp hb c3) (fun f s4 h4=>?_) fun _ _ e=>e
  cases f with
  | next=>obtain ⟨x',G5,h1,h2,h3⟩:=h4;exact ⟨μ x',h1,x',G5,rfl,h2,h3⟩
  | cont=>obtain ⟨x',G5,h1,h2,h3⟩:=h4;exact ⟨μ x',h1,x',G5,rfl,h2,h3⟩
  | brk=>exact h4.elim
  | ret u=>exact h4
 | false=>
  rw [if_neg (by decide)]
  exact wpAny_execs_nil (done x G3 s3 hp hb c3)
theorem eraseIdx_arr (vs:Array Value) (k:Nat):(vs.eraseIdxIfInBounds k).toList=vs.toList.eraseIdx k:=by
 unfold Array.eraseIdxIfInBounds
 split
 ·simp
 ·rename_i h;rw [List.eraseIdx_of_length_le (by simpa using h)]
theorem st_pop {o:PySem.Expr} {args:List PySem.Expr} {x:Str} {px apos cpos pos:Pos} {rest:List Stmt} {nm:Option Str} {l:Addr} {ds:List D} {K K':Kd} {ρ1 ρ':Rho} {j:Nat} {d:D} (a:AOK n A) (c:St w env G₀ s₀ M ρ G s)
  (ho:EvV w env n [] ρ o (.ref l)) (sw:Swap (nm,K) (nm,K') ρ ρ1) (lk:LK w l ds (ds.eraseIdx j) K K') (hlen:ds.length≤1000000) (hd:ds[j]? = some d)
  (hj:(args=[]∧j=ds.length - 1)∨(∃ kk p,args=[.Constant (.int 0) kk p]∧j=0))
  (hu:Upd x (dat w.params d) ρ1 ρ') (hk:env.scope.kind=.function) (hx:env.kindOf x=some .local∨(env.kindOf x=some .cell∧(env.cells.lookup x).isSome=true∧env.func.isSome=true))
  (k:∀ G' s',St w env G₀ s₀ M ρ' G' s'→wpAny (model pw w) A (execs rest env) Q E s')
  (hbase:attributeBase o "pop" env (eval o env)=eval o env:=by rfl) (hline:(apos.endLine==cpos.line)=true:=by rfl) (ht:backTo cpos (starEach args env)=args.map fun e=>(false,eval e env):=by rfl)
  (hs:swapsWith (.Call (.Attribute o "pop" apos) args [] cpos) (some (.Name x px)) pos.line env=pure false:=by rfl) :
  wpAny (model pw w) A (execs (.Assign [.Name x px] (.Call (.Attribute o "pop" apos) args [] cpos) pos::rest) env) Q E s:=by
 refine wpAny_execs_cons (wpAny_Assign_Name ?_ hs)
 have fin:∀ G2 s2 (vs:Array Value) m,St w env G₀ s₀ M ρ G2 s2→s2.heap.get? l=some (lstO vs m)→RepL w.params G2 vs.toList ds→∃ v,vs[j]? = some v∧
   wpAny (model pw w) A (storeName env x v) (fun _ s3=>wpAny (model pw w) A (execs rest env) Q E s3) E {s2 with heap:=s2.heap.update l (Obj.mapSeq fun xs=>xs.eraseIdxIfInBounds j)}:=fun G2 s2 vs m c2 hg r=>by
  obtain ⟨v,h1,h2⟩:=r.get hd
  have c3:=c2.lst sw lk hg (fun xs=>xs.eraseIdxIfInBounds j) (by rw [eraseIdx_arr];exact r.eraseIdx j)
  exact ⟨v,by simpa using h1,c3.store hk hx hu h2 (fun _ h=>nomatch h) (fun _ h=>nomatch h) (fun q _ _=>⟨(fun _ h=>nomatch h),(fun _ _ h=>nomatch h)⟩) fun s' c'=>k _ _ c'⟩
 have hz:sizeLine=16777216:=by rw [sizeLine_eq]
 rcases hj with ⟨rfl,rfl⟩ | ⟨kk,p,rfl,rfl⟩
 ·refine meth0 (l:=l) PySem.F.slot_list_pop PySem.F.type_list_pop hbase hline (ho A G₀ s₀ M G s _ E a noN c fun v G1 s1 y1 c1 e1=>?_)
  obtain ⟨vs,m,hg,r⟩:=c1.read sw.mem lk
  have hl:=r.arr
  obtain ⟨v,hv,f⟩:=fin G1 s1 vs m c1 hg r
  rw [← hl] at hv f
  exact ⟨e1,⟨vs,m,hg⟩,PySem.P.pop_list hg hv f (by exact qk ‹_› ‹_›)⟩
 ·refine meth1 (l:=l) PySem.F.slot_list_pop PySem.F.type_list_pop hbase hline ht (ho A G₀ s₀ M G s _ E a noN c fun v G1 s1 y1 c1 e1=>?_)
  obtain ⟨vs,m,hg,r⟩:=c1.read sw.mem lk
  refine ⟨e1,⟨vs,m,hg⟩,PySem.P.pop_at_list (ev_int A G₀ s₀ M G1 s1 _ E a noN c1 fun v G2 s2 y2 c2 ⟨dd,rd,pd⟩=>?_)⟩
  subst pd
  obtain ⟨_,rfl⟩:=rd.inv
  obtain ⟨vs,m,hg,r⟩:=c2.read sw.mem lk
  have hl:=r.arr
  obtain ⟨v,hv,f⟩:=fin G2 s2 vs m c2 hg r
  have h0:0 < vs.size:=(Array.getElem?_eq_some_iff.mp hv).1
  exact ⟨vs,m,0,_,0,v,by exact qk ‹_› ‹_›,rfl,hg,by decide,by unfold seqIndex?;simp [h0],hv,f⟩
theorem RepL.strs {P:Params} {G:Fz} {ss:List Str}:∀ {vs:List Value},RepL P G vs (ss.map .str)→StrsAre vs ss:=by
 induction ss with
 | nil=>
  intro vs h
  obtain ⟨_,rfl⟩:=h.inv
  exact .nil
 | cons x ss ih=>
  intro vs h
  obtain ⟨v,l,rfl,h1,h2⟩:=h.inv
  obtain ⟨_,rfl⟩:=h1.inv
  exact .cons _ _ (ih h2)
theorem eraseIdx_map {α β:Type} (f:α→β) (l:List α) (k:Nat):(l.map f).eraseIdx k=(l.eraseIdx k).map f:=by
 induction l generalizing k with
 | nil=>rfl
 | cons a l ih=>
  cases k with
  | zero=>rfl
  | succ k=>exact congrArg (f a :: ·) (ih k)
theorem st_rem {o e:PySem.Expr} {apos cpos pos:Pos} {rest:List Stmt} {nm:Option Str} {l:Addr} {ss:List Str} {y:Str} {K K':Kd} {ρ1:Rho} (a:AOK n A) (c:St w env G₀ s₀ M ρ G s)
  (ho:EvV w env n [] ρ o (.ref l)) (sw:Swap (nm,K) (nm,K') ρ ρ1) (lk:LK w l (ss.map .str) ((ss.erase y).map .str) K K') (hlen:ss.length≤1000000) (he:Ev w env n [] ρ e (fun d=>d=.str y)) (hm:y∈ss)
  (k:∀ G' s',St w env G₀ s₀ M ρ1 G' s'→wpAny (model pw w) A (execs rest env) Q E s')
  (hbase:attributeBase o "remove" env (eval o env)=eval o env:=by rfl) (hline:(apos.endLine==cpos.line)=true:=by rfl) (ht:backTo cpos (starEach [e] env)=[(false,eval e env)]:=by rfl) (hi:interactive env=false:=by rfl) :
  wpAny (model pw w) A (execs (.Expr (.Call (.Attribute o "remove" apos) [e] [] cpos) pos::rest) env) Q E s:=
 wpAny_execs_cons (wpAny_Expr_any (hi:=hi) (meth1 PySem.F.slot_list_remove PySem.F.type_list_remove hbase hline ht (ho A G₀ s₀ M G s _ E a noN c fun v G1 s1 y1 c1 e1=>by
  obtain ⟨vs,m,hg,_⟩:=c1.read sw.mem lk
  refine ⟨e1,⟨vs,m,hg⟩,PySem.P.remove_list (he A G₀ s₀ M G1 s1 _ E a noN c1 fun v G2 s2 y2 c2 ⟨d,rd,pd⟩=>?_)⟩
  subst pd
  obtain ⟨_,rfl⟩:=rd.inv
  obtain ⟨vs,m,hg,r⟩:=c2.read sw.mem lk
  have hl:=r.arr
  rw [List.length_map] at hl
  have hz:sizeLine=16777216:=by rw [sizeLine_eq]
  have hS:StrsAre vs.toList ss:=r.strs
  have hlt:ss.idxOf y < ss.length:=List.idxOf_lt_length_iff.mpr hm
  have val:∀ i (h:i < vs.size),∃ t,vs[i]=.str (ss[i]'(by omega)) t:=fun i h=>by
   obtain ⟨d,h1,h2⟩:=r.get' (k:=i) (v:=vs[i]) (by simp [h])
   rw [List.getElem?_map,List.getElem?_eq_getElem (by omega)] at h1
   cases h1
   generalize vs[i]=vv at h2
   cases h2
   exact ⟨_,rfl⟩
  refine ⟨vs,m,isStrOf y,ss.idxOf y,by omega,by exact qk ‹_› ‹_›,hg,fun z hz=>eq_isStrOf y _ hS z (by simpa using hz),?_,fun i hi hlt2=>?_,k G2 _ (c2.lst sw lk hg (fun xs=>xs.eraseIdxIfInBounds (ss.idxOf y)) ?_)⟩
  ·obtain ⟨t,ht⟩:=val (ss.idxOf y) (by omega)
   rw [ht]
   simp [isStrOf]
  ·obtain ⟨t,ht⟩:=val i hi
   rw [ht]
   have:=List.not_of_lt_findIdx (p:=(· == y)) (xs:=ss) hlt2
   simpa [isStrOf] using this
  ·rw [eraseIdx_arr]
   have:=r.eraseIdx (ss.idxOf y)
   rw [eraseIdx_map,← List.erase_eq_eraseIdx_of_idxOf rfl] at this
   exact this)))
end
end Mine
end
section
namespace Mine
variable {w:World} {env:Env} {n:Nat} {N:List Addr} {ρ:Rho}
inductive Cap (N:List Addr) (env:Env) (scope:Scope) (cl:List (Str×Addr)):Rho→Rho→Prop
 | nil:Cap N env scope cl [] []
 | drop {q:Option Str×Kd} {ρ ρc:Rho}:Cap N env scope cl ρ ρc→Cap N env scope cl (q::ρ) ρc
 | fact {K:Kd} {ρ ρc:Rho}:Cap N env scope cl ρ ρc→Cap N env scope cl ((none,K)::ρ) ((none,K.ro)::ρc)
 | own {K:Kd} {ρ ρc:Rho}:(∀ a∈K.ow,a∈N)→Cap N env scope cl ρ ρc→Cap N env scope cl ((none,K)::ρ) ((none,K)::ρc)
 | var {y:Str} {K:Kd} {ρ ρc:Rho}:(env.kindOf y=some .cell∨env.kindOf y=some .free)→cl.lookup y=env.cells.lookup y→((relabel scope env).names.lookup y=some .cell∨(relabel scope env).names.lookup y=some .free)→
   Cap N env scope cl ρ ρc→Cap N env scope cl ((some y,K)::ρ) ((some y,K.ro)::ρc)
theorem InC.more {scope:Scope} {cl:List (Str×Addr)} {q q':Option Str×Kd} (x:InC N env scope cl ρ q):InC N env scope cl (q'::ρ) q:=by
 cases x with
 | fact h=>exact .fact (.tail _ h)
 | own h h2=>exact .own (.tail _ h) h2
 | var h a b c=>exact .var (.tail _ h) a b c
theorem Cap.mem {scope:Scope} {cl:List (Str×Addr)} {ρ ρc:Rho} (x:Cap N env scope cl ρ ρc):∀ q∈ρc,InC N env scope cl ρ q:=by
 induction x with
 | nil=>exact fun q h=>nomatch h
 | drop _ ih=>exact fun q h=>(ih q h).more
 | fact _ ih=>exact fun q h=>(List.mem_cons.mp h).elim (fun e=>by subst e;exact .fact (.head _)) fun h=>(ih q h).more
 | own h1 _ ih=>exact fun q h=>(List.mem_cons.mp h).elim (fun e=>by subst e;exact .own (.head _) h1) fun h=>(ih q h).more
 | var a b c _ ih=>exact fun q h=>(List.mem_cons.mp h).elim (fun e=>by subst e;exact .var (.head _) a b c) fun h=>(ih q h).more
theorem Cap.src {scope:Scope} {cl:List (Str×Addr)}:∀ {ρ ρc:Rho},Cap N env scope cl ρ ρc→∀ q∈ρc,∃ q0∈ρ,q.1=q0.1∧q.2.fp=q0.2.fp∧∀ a∈q.2.ow,a∈q0.2.ow:=fun x q hq=>by
 cases x.mem q hq with
 | fact h=>exact ⟨_,h,rfl,rfl,fun _ h=>nomatch h⟩
 | own h _=>exact ⟨_,h,rfl,rfl,fun _ h=>h⟩
 | var h _ _ _=>exact ⟨_,h,rfl,rfl,fun _ h=>nomatch h⟩
theorem Cap.sep {scope:Scope} {cl:List (Str×Addr)} {ρ ρc:Rho} (x:Cap N env scope cl ρ ρc):ρ.Pairwise Sep→ρc.Pairwise Sep:=by
 induction x with
 | nil=>exact fun _=>.nil
 | drop _ ih=>exact fun h=>ih (List.pairwise_cons.mp h).2
 | fact x ih=>
  refine fun h=>List.pairwise_cons.mpr ⟨fun q hq=>?_,ih (List.pairwise_cons.mp h).2⟩
  obtain ⟨q0,h0,e1,e2,e3⟩:=x.src q hq
  exact ⟨.inl rfl,(fun _ h=>nomatch h),fun a ha=>((List.pairwise_cons.mp h).1 q0 h0).2.2 a (e3 a ha)⟩
 | own _ x ih=>
  refine fun h=>List.pairwise_cons.mpr ⟨fun q hq=>?_,ih (List.pairwise_cons.mp h).2⟩
  obtain ⟨q0,h0,e1,e2,e3⟩:=x.src q hq
  have s1:=(List.pairwise_cons.mp h).1 q0 h0
  exact ⟨.inl rfl,fun a ha=>by rw [e2];exact s1.2.1 a ha,fun a ha=>s1.2.2 a (e3 a ha)⟩
 | var _ _ _ x ih=>
  refine fun h=>List.pairwise_cons.mpr ⟨fun q hq=>?_,ih (List.pairwise_cons.mp h).2⟩
  obtain ⟨q0,h0,e1,e2,e3⟩:=x.src q hq
  have s1:=(List.pairwise_cons.mp h).1 q0 h0
  exact ⟨by rw [e1];exact s1.1,(fun _ h=>nomatch h),fun a ha=>s1.2.2 a (e3 a ha)⟩
theorem sep_two {ρ:Rho} {p q:Option Str×Kd} (h:ρ.Pairwise Sep) (hp:p∈ρ) (hq:q∈ρ) (hne:p≠q):Sep p q:=by
 induction ρ with
 | nil=>cases hp
 | cons r ρ ih=>
  have h1:=List.pairwise_cons.mp h
  rcases List.mem_cons.mp hp with e | hp'
  ·exact (List.mem_cons.mp hq).elim (fun e'=>(hne (e.trans e'.symm)).elim) fun hq'=>by rw [e];exact h1.1 q hq'
  ·exact (List.mem_cons.mp hq).elim (fun e'=>by rw [e'];exact (h1.1 p hp').symm) fun hq'=>ih h1.2 hp' hq'
theorem comp_core {elt target iter:PySem.Expr} {ifs:List PySem.Expr} {gs:List Comprehension} {scope:Scope} {pos ipos:Pos} {cl:List (Str×Addr)} {use:Option (Value→Sem Unit)} {Pds P:List D→Prop} (ρc:Rho)
  {A:Around} {G₀ G:Fz} {s₀ s:Shared} {M:List Addr} {Q:Value→Shared→Prop} {E:Value→Shared→Prop} (a:AOK n A) (hNM:∀ x∈N,x∈M) (c:St w env G₀ s₀ M ρ G s)
  (hi:Ite w env n [] ρ iter Pds) (hclos:closureFor scope env=pure cl) (hcell:∀ y∈scope.names,y.2≠.cell) (hkind:scope.kind=.function) (hnames:∀ y∈scope.names,y.2=.local→scope.names.lookup y.1=some .local)
  (hcl:∀ y cc,cl.lookup y=some cc→∃ y',env.cells.lookup y'=some cc) (hclp:cl.Pairwise fun x y=>x.2≠y.2)
  (hcap:Cap N env scope cl ρ ρc) (hT:∀ x∈N,∃ K,(none,K)∈ρ∧(none,K)∈ρc∧x∈K.ow)
  (loop:∀ C Dd I ds IF G1 s1 (R:Result→Shared→Prop),It w I ds IF→Pds ds→s.heap.get? I=none→St w (compEnvC scope cl C env) G s N ((none,IF 0)::(none,accK w Dd [])::ρc) G1 s1→
   (∀ acc G2 s2,P acc→St w (compEnvC scope cl C env) G s N ((none,accK w Dd acc)::ρc) G2 s2→R (.ok .next) s2)→
   codeAny (model pw w) A (.compLoop (.ListComp elt (⟨target,iter,ifs,0⟩::gs) scope pos) 0 (.ref I) (.ref Dd) (compEnvC scope cl C env)) R s1)
  (fin:∀ C Dd acc G2 s2,P acc→s.heap.get? Dd=none→s.heap.get? C=none→Step G s N G2 s2→St w env G₀ s₀ M ((none,nsK C)::(none,accK w Dd acc)::ρ) G2 s2→compPost (model pw w) A E use Q (.ref Dd) C (.ok .next) s2)
  (hs:∀ x,foldedSetIterable iter env x=pure x:=by intro _;rfl) :
  wpAny (model pw w) A (comprehension (.ListComp elt (⟨target,iter,ifs,0⟩::gs) scope pos) scope env ipos (newList []) false (eval iter env) use) Q E s:=by
 refine wpAny_comprehension_free (g:=⟨target,iter,ifs,0⟩) rfl hs hclos hkind hnames (hi A G₀ s₀ M G s _ E a (fun _ h=>nomatch h) c fun I ds IF G1 s1 it hp hI y1 z1=>?_)
 refine wpAny_newObj_type (wpAny_newFunctionEnv hcell (by intro y hy;simp at hy) (fun h2 hns2 hsb2=>?_) hkind) (by show ([]:List Value).toArray.size≤sizeLine;simp)
 dsimp only at hns2 hsb2 ⊢
 have hC:(s1.heap.push {cls:=.type "list",data:=.seq ([]:List Value).toArray}).objs.size=s1.heap.objs.size+1:=Heap.size_push ..
 generalize hCC:(s1.heap.push {cls:=.type "list",data:=.seq ([]:List Value).toArray}).objs.size=C at hns2 hsb2 hC ⊢
 generalize hDD:s1.heap.objs.size=Dd at hC ⊢
 have nD:s1.heap.get? Dd=none:=by rw [← hDD];exact fresh_size _
 have nC:s1.heap.get? C=none:=Heap.get?_none_of_le (by rw [hC,← hDD];exact qa)
 have hDC:Dd≠C:=by omega
 have old1:∀ b o,s1.heap.get? b=some o→h2.get? b=some o:=fun b o e=>(hsb2.2 b fun q=>by rw [q,nC] at e;cases e).trans (Heap.get?_push_of_some _ (Heap.get?_push_of_some _ e))
 have n0:∀ b,s1.heap.get? b=none→s.heap.get? b=none:=fun b e=>Classical.byContradiction fun q=>y1.dom b q e
 have g0:∀ b,s1.heap.get? b=none→G1 b=none:=fun b e=>by
  cases q:G1 b with
  | none=>rfl
  | some o=>have:=y1.inn _ _ q;rw [e] at this;cases this
 have hDat:h2.get? Dd=some (lstO #[] 0):=(hsb2.2 Dd hDC).trans (Heap.get?_push_of_some _ (by rw [← hDD];exact Heap.get?_push_size _ rfl))
 have ex1:∀ b,s1.heap.get? b≠none→h2.get? b≠none∧b≠C∧b≠Dd:=fun b e=>by
  obtain ⟨o,ho⟩:=Option.ne_none_iff_exists'.mp e
  exact ⟨by rw [old1 _ _ ho];exact (fun h=>(nomatch h)),fun q=>e (by rw [q];exact nC),fun q=>e (by rw [q];exact nD)⟩
 obtain ⟨sep1,sep2⟩:=List.pairwise_cons.mp z1.sep
 have hρc:=hcap.src
 have c2:St w (compEnvC scope cl C env) G s N ((none,IF 0)::(none,accK w Dd [])::ρc) G1 {s1 with heap:=h2,toks:=s1.toks+([]:List (Str×Value)).length}:={
  step:=(y1.mono (N':=N) fun _ h=>nomatch h).trans (M':=[]) ⟨⟨h2,_,rfl⟩,Le.rfl,fun b o e=>old1 _ _ (y1.inn b o e),fun _ _ e=>.inl e,fun b o _ e=>old1 b o e,fun b e=>(ex1 b e).1⟩ fun _ h=>nomatch h
  base:=c.HFG
  fr:=⟨_,hns2⟩
  newL:=n0 _ nC
  GL:=g0 _ nC
  cell:=fun y cc hm=>by
   obtain ⟨y',hy'⟩:=hcl y cc hm
   obtain ⟨⟨v,o,e,r⟩,g⟩:=z1.cell y' cc hy'
   exact ⟨⟨v,o,old1 _ _ e,r⟩,g⟩
  apart:=hclp
  cnew:=fun h=>nomatch h
  vars:=fun q hq=>by
   rcases List.mem_cons.mp hq with e | hq
   ·subst e;exact (IF 0).st Le.rfl (fun b hb o e=>old1 b o e) (z1.vars _ (.head _))
   rcases List.mem_cons.mp hq with e | hq
   ·subst e;exact ⟨#[],0,hDat,.nil⟩
   cases hcap.mem q hq with
   | @fact K h=>exact K.st Le.rfl (fun b hb o e=>old1 b o e) (z1.vars _ (.tail _ h))
   | @own K h _=>exact K.st Le.rfl (fun b hb o e=>old1 b o e) (z1.vars _ (.tail _ h))
   | @var y K h h1 h2' h3=>
    obtain ⟨v,hv,hpv⟩:=z1.vars _ (.tail _ h)
    refine ⟨v,?_,K.st Le.rfl (fun b hb o e=>old1 b o e) hpv⟩
    rcases hv with ⟨hl,_⟩ | ⟨_,cc,hcc,o,e,r⟩
    ·rcases h1 with h1 | h1<;>(rw [h1] at hl;cases hl)
    ·exact .inr ⟨h3,cc,h2'.trans hcc,o,old1 _ _ e,r⟩
  fps:=fun q hq b hb=>by
   have fin:(s1.heap.get? b≠none∧b≠env.locals∧∀ y c,env.cells.lookup y=some c→b≠c)→h2.get? b≠none∧b≠C∧∀ y c,cl.lookup y=some c→b≠c:=fun ⟨h1,h2,h3⟩=>
    ⟨(ex1 b h1).1,(ex1 b h1).2.1,fun y cc hm=>by obtain ⟨y',hy'⟩:=hcl y cc hm;exact h3 y' cc hy'⟩
   rcases List.mem_cons.mp hq with e | hq
   ·subst e;exact fin (z1.fps _ (.head _) b hb)
   rcases List.mem_cons.mp hq with e | hq
   ·subst e
    have:b=Dd:=List.mem_singleton.mp hb
    subst this
    refine ⟨by show h2.get? b≠none;rw [hDat];exact (fun h=>(nomatch h)),hDC,fun y cc hm e=>?_⟩
    obtain ⟨y',hy'⟩:=hcl y cc hm
    exact z1.frC hy' (e▸nD)
   obtain ⟨q0,hq0,_,e1,_⟩:=hρc q hq
   rw [e1] at hb
   exact fin (z1.fps _ (.tail _ hq0) b hb)
  ows:=fun q hq b hb=>by
   rcases List.mem_cons.mp hq with e | hq
   ·subst e
    obtain ⟨h1,h2,_⟩:=z1.ows _ (.head _) b hb
    rw [it.ow] at hb
    have:=List.mem_singleton.mp hb
    subst this
    exact ⟨h1,h2,.inr hI⟩
   rcases List.mem_cons.mp hq with e | hq
   ·subst e
    have:b=Dd:=List.mem_singleton.mp hb
    subst this
    exact ⟨hb,g0 _ nD,.inr (n0 _ nD)⟩
   cases hcap.mem q hq with
   | fact h=>exact nomatch hb
   | own h h2=>
    obtain ⟨h3,h4,_⟩:=z1.ows _ (.tail _ h) b hb
    exact ⟨h3,h4,.inl (h2 b hb)⟩
   | var h _ _ _=>exact nomatch hb
  sep:=by
   have sD:∀ K:Kd,(∀ b∈K.fp,s1.heap.get? b≠none)→Dd∉K.fp:=fun K h hm=>h _ hm nD
   refine List.pairwise_cons.mpr ⟨fun q hq=>?_,List.pairwise_cons.mpr ⟨fun q hq=>?_,hcap.sep sep2⟩⟩
   ·rcases List.mem_cons.mp hq with e | hq
    ·subst e
     refine ⟨.inl rfl,fun b hb hm=>?_,fun b hb=>?_⟩
     ·have:b=Dd:=List.mem_singleton.mp hm
      subst this
      exact (z1.fps _ (.head _) _ (z1.ows _ (.head _) _ hb).1).1 nD
     ·have:b=Dd:=List.mem_singleton.mp hb
      subst this
      exact sD _ fun b hb=>(z1.fps _ (.head _) b hb).1
    ·obtain ⟨q0,hq0,_,e1,e2⟩:=hρc q hq
     refine ⟨.inl rfl,fun b hb hm=>?_,fun b hb=>?_⟩
     ·rw [e1] at hm;exact (sep1 q0 hq0).2.1 b hb hm
     ·exact (sep1 q0 hq0).2.2 b (e2 b hb)
   ·obtain ⟨q0,hq0,_,e1,e2⟩:=hρc q hq
    refine ⟨.inl rfl,fun b hb hm=>?_,fun b hb hm=>?_⟩
    ·have:b=Dd:=List.mem_singleton.mp hb
     subst this
     rw [e1] at hm
     exact sD _ (fun b hb=>(z1.fps _ (.tail _ hq0) b hb).1) hm
    ·have:b=Dd:=List.mem_singleton.mp hm
     subst this
     exact (z1.fps _ (.tail _ hq0) b (z1.ows _ (.tail _ hq0) b (e2 b hb)).1).1 nD}
 have key:=loop C Dd I ds IF G1 _ (compPost (model pw w) A E use Q (.ref Dd) C) it hp hI c2 fun acc G2 s2 hP c3=>by
  have z2:St w env G₀ s₀ M ρ G2 s2:=by
   have cz:St w env G₀ s₀ M ρ G s:=c
   refine cz.turn c3.step (fun x hx=>.inl (hNM x hx)) (fun hm=>?_) (fun y cc hm hm2=>?_) (fun q hq ⟨b,hb,hb2⟩=>?_)
   ·obtain ⟨K,h1,h2,h3⟩:=hT _ hm
    exact (c.fps _ h1 _ (c.ows _ h1 _ h3).1).2.1 rfl
   ·obtain ⟨K,h1,h2,h3⟩:=hT _ hm2
    exact (c.fps _ h1 _ (c.ows _ h1 _ h3).1).2.2 y cc hm rfl
   ·obtain ⟨K,h1,h2,h3⟩:=hT _ hb
    by_cases hqe:q=(none,K)
    ·subst hqe;exact c3.vars _ (.tail _ h2)
    ·have:=sep_two c.sep h1 hq (fun e=>hqe e.symm)
     exact (this.2.1 b h3 hb2).elim
  have nsC:∃ m,s2.heap.Ns C m:=c3.fr
  obtain ⟨gC1,gC2⟩:s.heap.get? C=none∧G2 C=none:=⟨c3.newL,c3.GL⟩
  obtain ⟨oD1,oD2,oD3⟩:=c3.ows (none,accK w Dd acc) (.head _) Dd (by show Dd∈[Dd];simp)
  have oD4:s.heap.get? Dd=none:=n0 _ nD
  have new0:∀ b,s.heap.get? b=none→s₀.heap.get? b=none:=fun b e=>Classical.byContradiction fun q=>c.step.dom b q e
  have apartC:∀ b,s.heap.get? b=none→(∀ q∈ρ,b∉q.2.fp)∧b≠env.locals∧∀ y cc,env.cells.lookup y=some cc→b≠cc:=fun b e=>
   ⟨fun q hq hm=>(c.fps q hq b hm).1 e,fun h=>c.frL (h▸e),fun y cc hm h=>c.frC hm (h▸e)⟩
  have z3:St w env G₀ s₀ M ((none,accK w Dd acc)::ρ) G2 s2:=by
   refine z2.addF (c3.vars _ (.head _)) (fun b hb=>?_) (fun b hb=>?_) (fun q hq=>⟨fun b hb=>?_,fun b hb hm=>?_⟩)
   ·have:=List.mem_singleton.mp hb;subst this
    exact ⟨(c3.fps _ (.head _) _ oD1).1,(apartC _ oD4).2⟩
   ·have:=List.mem_singleton.mp hb;subst this
    exact ⟨hb,oD2,.inr (new0 _ oD4)⟩
   ·have:=List.mem_singleton.mp hb;subst this
    exact (apartC _ oD4).1 q hq
   ·have:=List.mem_singleton.mp hm;subst this
    exact (apartC _ oD4).1 q hq (z2.ows q hq _ hb).1
  have z4:St w env G₀ s₀ M ((none,nsK C)::(none,accK w Dd acc)::ρ) G2 s2:=by
   refine z3.addF nsC (fun b hb=>?_) (fun b hb=>?_) (fun q hq=>⟨fun b hb hm=>?_,fun b hb hm=>?_⟩)
   ·have:=List.mem_singleton.mp hb;subst this
    exact ⟨c3.frL,(apartC _ gC1).2⟩
   ·have:=List.mem_singleton.mp hb;subst this
    exact ⟨hb,gC2,.inr (new0 _ gC1)⟩
   ·have:=List.mem_singleton.mp hb;subst this
    rcases List.mem_cons.mp hq with e | hq
    ·subst e;exact hDC (List.mem_singleton.mp hm).symm
    ·exact (apartC _ gC1).1 q hq hm
   ·have:=List.mem_singleton.mp hm;subst this
    rcases List.mem_cons.mp hq with e | hq
    ·subst e;exact hDC (List.mem_singleton.mp hb).symm
    ·exact (apartC _ gC1).1 q hq (z2.ows q hq _ hb).1
  exact fin C Dd acc G2 s2 hP oD4 gC1 c3.step z4
 exact codeAny_compStart_list key (it.self A G1 _ _ _ a.2.2 (c2.vars _ (.head _)) key)
end Mine
end
section
namespace Mine
variable {w:World} {env:Env} {n:Nat} {N:List Addr} {ρ:Rho}
inductive TrsN (w:World) (env:Env) (n:Nat) (N:List Addr) (ρ:Rho):List PySem.Expr→Bool→Prop
 | none:TrsN w env n N ρ [] true
 | one {e b}:Tr w env n N ρ e (fun b'=>b'=b)→TrsN w env n N ρ [e] b
theorem TrsN.run {ifs:List PySem.Expr} {b:Bool} (t:TrsN w env n N ρ ifs b) {A:Around} {G₀ G:Fz} {s₀ s:Shared} {M:List Addr} {E:Value→Shared→Prop} (a:AOK n A) (hNM:∀ x∈N,x∈M) (c:St w env G₀ s₀ M ρ G s) :
  wpAny (model pw w) A (forIn ifs true fun c r=>if r=true then do let ok←isTrue c env (eval c env);pure (ForInStep.yield ok) else pure (ForInStep.yield r))
    (fun b' s2=>b'=b∧∃ G2,St w env G₀ s₀ M ρ G2 s2) E s:=by
 cases t with
 | none=>exact wpAny_tests_nil ⟨rfl,G,c⟩
 | one ht=>exact wpAny_tests_one (ht A G₀ s₀ M G s _ _ a hNM c fun b' G6 s6 y6 c6 e=>⟨e,G6,c6⟩)
theorem emit_last {elt:PySem.Expr} {A:Around} {G₀ G:Fz} {s₀ s:Shared} {M:List Addr} {E:Value→Shared→Prop} {K1:Kd} {Dd:Addr} {acc:List D} {ρX ρc:Rho} {R:D→Prop} (a:AOK n A) (hNM:∀ x∈N,x∈M)
  (c:St w env G₀ s₀ M ((none,K1)::(none,accK w Dd acc)::ρX) G s) (he:Ev w env n N ((none,K1)::(none,accK w Dd acc)::ρX) elt R) (hsub:ρc.Sublist ρX) (hlen:acc.length≤1000000) :
  wpAny (model pw w) A (do let _←call (.builtin "list.append") [.ref Dd,← eval elt env]) (fun _ s2=>∃ G2 r,R r∧St w env G₀ s₀ M ((none,K1)::(none,accK w Dd (acc++[r]))::ρc) G2 s2) E s:=by
 refine wpAny_bind (he A G₀ s₀ M G s _ _ a hNM c fun x G7 s7 y7 c7 ⟨r,rr',hrr⟩=>?_)
 obtain ⟨vs,mm,e1,r1⟩:=c7.vars (none,accK w Dd acc) (by simp)
 have hl:=r1.arr
 refine wpAny_bind (wpAny_list_append_plain ⟨mm,e1⟩ (fun h8 hl8 hs8=>wpAny_pure ?_) (by rw [sizeLine_eq];exact qk ‹_› ‹_›))
 obtain ⟨m8,ho8⟩:=hl8
 have c8:=c7.swap.chg (K':=accK w Dd (acc++[r])) (I:=Dd) (h':=h8) (by show Dd∈[Dd];simp) (fun b o hb e=>(hs8.2 b hb).trans e) (by rw [ho8];exact (fun h=>(nomatch h))) rfl rfl
  (fun v _ _=>⟨_,m8,ho8,by simpa using r1.append (.cons rr' .nil)⟩) s7.toks
 exact ⟨G7,r,hrr,c8.swap.sub ((hsub.cons_cons _).cons_cons _)⟩
theorem comp1 {elt target iter:PySem.Expr} {ifs:List PySem.Expr} {scope:Scope} {pos ipos:Pos} {cl:List (Str×Addr)} {use:Option (Value→Sem Unit)} {Pds P:List D→Prop} (ρc:Rho) (ρd:D→Rho) (p:D→Bool) (R:D→D→Prop)
  {A:Around} {G₀ G:Fz} {s₀ s:Shared} {M:List Addr} {Q:Value→Shared→Prop} {E:Value→Shared→Prop} (a:AOK n A) (hNM:∀ x∈N,x∈M) (c:St w env G₀ s₀ M ρ G s)
  (hi:Ite w env n [] ρ iter Pds) (hclos:closureFor scope env=pure cl) (hcell:∀ y∈scope.names,y.2≠.cell) (hkind:scope.kind=.function) (hnames:∀ y∈scope.names,y.2=.local→scope.names.lookup y.1=some .local)
  (hcl:∀ y cc,cl.lookup y=some cc→∃ y',env.cells.lookup y'=some cc) (hclp:cl.Pairwise fun x y=>x.2≠y.2)
  (hcap:Cap N env scope cl ρ ρc) (hT:∀ x∈N,∃ K,(none,K)∈ρ∧(none,K)∈ρc∧x∈K.ow)
  (hasg:∀ C K1 K2 A E G₀ s₀ G s ds d v,AOK n A→Pds ds→d∈ds→Rep w.params G v d→St w (compEnvC scope cl C env) G₀ s₀ N ((none,K1)::(none,K2)::ρc) G s→
   wpAny (model pw w) A (assign target (compEnvC scope cl C env) v) (fun _ s2=>∃ G2,St w (compEnvC scope cl C env) G₀ s₀ N ((none,K1)::(none,K2)::ρd d) G2 s2) E s)
  (hsub:∀ d,ρc.Sublist (ρd d))
  (htest:∀ C K1 K2 ds d,Pds ds→d∈ds→TrsN w (compEnvC scope cl C env) n N ((none,K1)::(none,K2)::ρd d) ifs (p d))
  (helt:∀ C K1 K2 ds d,Pds ds→d∈ds→p d=true→Ev w (compEnvC scope cl C env) n N ((none,K1)::(none,K2)::ρd d) elt (R d))
  (hP:∀ ds l,Pds ds→ds.length≤1000000∧(All2 R (ds.filter p) l→P l))
  (fin:∀ C Dd acc G2 s2,P acc→s.heap.get? Dd=none→s.heap.get? C=none→Step G s N G2 s2→St w env G₀ s₀ M ((none,nsK C)::(none,accK w Dd acc)::ρ) G2 s2→compPost (model pw w) A E use Q (.ref Dd) C (.ok .next) s2)
  (hs:∀ x,foldedSetIterable iter env x=pure x:=by intro _;rfl) :
  wpAny (model pw w) A (comprehension (.ListComp elt [⟨target,iter,ifs,0⟩] scope pos) scope env ipos (newList []) false (eval iter env) use) Q E s:=by
 refine comp_core (P:=P) ρc a hNM c hi hclos hcell hkind hnames hcl hclp hcap hT (fun C Dd I ds IF G1 s1 Rr it hp hI c1 dn=>?_) fin hs
 have hbig:=(hP ds [] hp).1
 refine comp_loop (emit:=fun acc=>do let _←call (.builtin "list.append") [acc,← eval elt (compEnvC scope cl C env)]) (p0:=iter.pos) (fun it acc=>compTurn_list elt target iter ifs scope pos it acc _) ρd p
  (fun i acc=>All2 R ((ds.take i).filter p) acc) it hI a.2.2 (fun i acc hinv=>?_) (fun E i acc d v G s hd hinv hr c2=>?_) hsub (fun E i acc d G s hd hinv c2=>?_) (fun i acc d hd hpd hinv=>?_) (fun E i acc d G s hd hpd hinv c2=>?_) (fun acc G s hinv c2=>?_) G1 s1 [] (by simpa using All2.nil) c1
 ·have h1:=hinv.length
  have h2:=List.length_filter_le p (ds.take i)
  have h3:=List.length_take_le i ds
  rw [List.length_take] at h2
  omega
 ·exact hasg C _ _ A E _ _ _ _ ds d v a hp (List.mem_of_getElem? hd) hr c2
 ·exact (htest C _ _ ds d hp (List.mem_of_getElem? hd)).run a (fun _ h=>h) c2
 ·have:(ds.take (i+1)).filter p=(ds.take i).filter p:=by rw [List.take_add_one,hd,List.filter_append];simp [hpd]
  show All2 R ((ds.take (i+1)).filter p) acc
  rw [this];exact hinv
 ·have hl:acc.length≤1000000:=by
   have h1:=hinv.length
   have h2:=List.length_filter_le p (ds.take i)
   rw [List.length_take] at h2
   omega
  refine wpAny_mono (emit_last a (fun _ h=>h) c2 (helt C _ _ ds d hp (List.mem_of_getElem? hd) hpd) (hsub d) hl) (fun _ s2 ⟨G2,r,hr,c3⟩=>⟨G2,_,?_,c3⟩) fun _ _ e=>e
  have:(ds.take (i+1)).filter p=(ds.take i).filter p++[d]:=by rw [List.take_add_one,hd,List.filter_append];simp [hpd]
  show All2 R ((ds.take (i+1)).filter p) _
  rw [this];exact hinv.snoc hr
 ·refine dn acc G s ((hP ds acc hp).2 ?_) c2
  rw [List.take_length] at hinv
  exact hinv
theorem comp_val {A:Around} {G₀ G G2:Fz} {s₀ s s2:Shared} {M:List Addr} {Q:Value→Shared→Prop} {E:Value→Shared→Prop} {C Dd:Addr} {acc:List D} {P:List D→Prop} (hP:P acc) (hD:s.heap.get? Dd=none) (hC:s.heap.get? C=none) (y:Step G s N G2 s2)
  (z:St w env G₀ s₀ M ((none,nsK C)::(none,accK w Dd acc)::ρ) G2 s2) (hS:s₀.heap.get? C=none) (k:∀ v G' s',Step G s N G' s'→St w env G₀ s₀ M ρ G' s'→KL w P s v G' s'→Q v s'):compPost (model pw w) A E none Q (.ref Dd) C (.ok .next) s2:=by
 obtain ⟨m,hm⟩:=z.vars _ (.head _)
 refine ⟨m,hm,fun h' hsb=>?_⟩
 have kp:∀ b o,b≠C→s2.heap.get? b=some o→h'.get? b=some o:=fun b o hb e=>(hsb.2 b hb).trans e
 have z2:=z.lose (I:=C) (h':=h') hS (by show C∈[C];simp) kp s2.toks
 obtain ⟨gC1,gC2,_⟩:=z.ows _ (.head _) C (by show C∈[C];simp)
 obtain ⟨vs,mm,e1,r1⟩:=z2.vars _ (.head _)
 obtain ⟨_,gD,_⟩:=z2.ows _ (.head _) Dd (by show Dd∈[Dd];simp)
 exact k _ G2 _ (y.lose hC gC2 kp s2.toks) z2.tail ⟨Dd,vs,mm,acc,rfl,hD,gD,e1,r1,hP⟩
theorem evl_comp1 {elt target iter:PySem.Expr} {ifs:List PySem.Expr} {scope:Scope} {pos:Pos} {cl:List (Str×Addr)} {Pds P:List D→Prop} (ρc:Rho) (ρd:D→Rho) (p:D→Bool) (R:D→D→Prop)
  (hi:Ite w env n [] ρ iter Pds) (hclos:closureFor scope env=pure cl) (hcell:∀ y∈scope.names,y.2≠.cell) (hkind:scope.kind=.function) (hnames:∀ y∈scope.names,y.2=.local→scope.names.lookup y.1=some .local)
  (hcl:∀ y cc,cl.lookup y=some cc→∃ y',env.cells.lookup y'=some cc) (hclp:env.cells.Pairwise (fun x y=>x.2≠y.2)→cl.Pairwise fun x y=>x.2≠y.2)
  (hcap:Cap N env scope cl ρ ρc) (hT:∀ x∈N,∃ K,(none,K)∈ρ∧(none,K)∈ρc∧x∈K.ow)
  (hasg:∀ C K1 K2 A E G₀ s₀ G s ds d v,AOK n A→Pds ds→d∈ds→Rep w.params G v d→St w (compEnvC scope cl C env) G₀ s₀ N ((none,K1)::(none,K2)::ρc) G s→
   wpAny (model pw w) A (assign target (compEnvC scope cl C env) v) (fun _ s2=>∃ G2,St w (compEnvC scope cl C env) G₀ s₀ N ((none,K1)::(none,K2)::ρd d) G2 s2) E s)
  (hsub:∀ d,ρc.Sublist (ρd d))
  (htest:∀ C K1 K2 ds d,Pds ds→d∈ds→TrsN w (compEnvC scope cl C env) n N ((none,K1)::(none,K2)::ρd d) ifs (p d))
  (helt:∀ C K1 K2 ds d,Pds ds→d∈ds→p d=true→Ev w (compEnvC scope cl C env) n N ((none,K1)::(none,K2)::ρd d) elt (R d))
  (hP:∀ ds l,Pds ds→ds.length≤1000000∧(All2 R (ds.filter p) l→P l))
  (hs:∀ x,foldedSetIterable iter env x=pure x:=by intro _;rfl) :
  EvL w env n N ρ (.ListComp elt [⟨target,iter,ifs,0⟩] scope pos) P:=fun A G₀ s₀ M G s Q E a b c k=>by
 rw [eval_ListComp]
 exact comp1 ρc ρd p R a b c hi hclos hcell hkind hnames hcl (hclp c.apart) hcap hT hasg hsub htest helt hP (fun C Dd acc G2 s2 h1 h2 h3 h4 h5=>comp_val h1 h2 h3 h4 h5 (Classical.byContradiction fun q=>c.step.dom _ q h3) k) hs
theorem st_comp {x:Str} {px pos:Pos} {elt:PySem.Expr} {gens:List Comprehension} {scope:Scope} {cpos:Pos} {rest:List Stmt} {ρ':Addr→List D→Rho} {A:Around} {G₀ G:Fz} {s₀ s:Shared} {M:List Addr} {Q:Flow→Shared→Prop} {E:Value→Shared→Prop}
  (hu:∀ C ad l,Upd x (own w.params ad l) ((none,nsK C)::ρ) ((none,nsK C)::ρ' ad l)) (hk:env.scope.kind=.function) (hx:env.kindOf x=some .local) (c:St w env G₀ s₀ M ρ G s)
  {P:List D→Prop} (k:∀ ad l G' s',P l→s₀.heap.get? ad=none→St w env G₀ s₀ M (ρ' ad l) G' s'→wpAny (model pw w) A (execs rest env) Q E s')
  (run:∀ Q':Value→Shared→Prop,(∀ C Dd acc G2 s2,P acc→s.heap.get? Dd=none→s.heap.get? C=none→St w env G₀ s₀ M ((none,nsK C)::(none,accK w Dd acc)::ρ) G2 s2→compPost (model pw w) A E (some (assign (.Name x px) env)) Q' (.ref Dd) C (.ok .next) s2)→
   wpAny (model pw w) A (comprehension (.ListComp elt gens scope cpos) scope env (firstIterPos gens cpos) (newList []) (firstAsync gens) (firstIter gens env) (some (assign (.Name x px) env))) Q' E s)
  (hs:swapsWith (.ListComp elt gens scope cpos) (some (.Name x px)) pos.line env=pure true:=by rfl) :
  wpAny (model pw w) A (execs (.Assign [.Name x px] (.ListComp elt gens scope cpos) pos::rest) env) Q E s:=by
 refine wpAny_execs_cons ?_
 rw [exec_Assign_Name_used _ _ _ _ hs]
 refine wpAny_bind (wpAny_standAt (wpAny_bind ?_))
 show wpAny _ _ (comprehension (.ListComp elt gens scope cpos) scope env (firstIterPos gens cpos) (newList []) (firstAsync gens) (firstIter gens env) (some (assign (.Name x px) env)) >>= fun _=>pure ()) _ _ _
 refine wpAny_bind (run _ fun C Dd acc G2 s2 hP hD hC z=>?_)
 have hS:∀ b,s.heap.get? b=none→s₀.heap.get? b=none:=fun b e=>Classical.byContradiction fun q=>c.step.dom _ q e
 obtain ⟨vs,mm,e1,r1⟩:=z.vars (none,accK w Dd acc) (by simp)
 obtain ⟨d1,d2,d3⟩:=z.ows (none,accK w Dd acc) (by simp) Dd (by show Dd∈[Dd];simp)
 have f:=z.fps (none,accK w Dd acc) (by simp) Dd d1
 have zz:=z.swap
 obtain ⟨s1,s2'⟩:=List.pairwise_cons.mp zz.sep
 refine wpAny_assign_Name (zz.tail.store hk (.inl hx) (hu C Dd acc) ⟨rfl,vs,mm,e1,r1⟩ (fun b hb=>?_) (fun b hb=>?_) (fun q hq _=>(s1 q hq).2) fun s3 c3=>?_)
 ·have:=List.mem_singleton.mp hb;subst this;exact f
 ·have:=List.mem_singleton.mp hb;subst this;exact ⟨hb,d2,d3⟩
 ·obtain ⟨m,hm⟩:=c3.vars _ (.head _)
  refine ⟨m,hm,fun h' hsb=>wpAny_pure (wpAny_pure ?_)⟩
  exact k Dd acc G2 _ hP (hS _ hD) (c3.lose (I:=C) (h':=h') (hS _ hC) (by show C∈[C];simp) (fun b o hb e=>(hsb.2 b hb).trans e) s3.toks)
end Mine
end
section
namespace Mine
variable {w:World} {env:Env} {n:Nat} {N:List Addr} {ρ:Rho}
noncomputable def LoC (env:Env) (x:Str):Prop:=env.kindOf x=some .local∨(env.kindOf x=some .cell∧(env.cells.lookup x).isSome=true∧env.func.isSome=true)
noncomputable def Kd.at (K:Kd) (v:Value):Kd:=⟨fun _ G h=>K.p v G h,K.fp,K.ow,fun hl he x=>K.st hl he x⟩
inductive KO (P:Kd→Prop) (s:Shared) (v:Value) (G':Fz) (s':Shared):Prop
 | mk (K:Kd):P K→K.p v G' s'.heap→(∀ a∈K.fp,s'.heap.get? a≠none∧s.heap.get? a=none)→(∀ a∈K.ow,a∈K.fp∧G' a=none)→KO P s v G' s'
noncomputable abbrev EvO (w:World) (env:Env) (n:Nat) (N:List Addr) (ρ:Rho) (e:PySem.Expr) (P:Kd→Prop):=EvK w env n N ρ e (KO P)
theorem EvL.o {e:PySem.Expr} {P:List D→Prop} (x:EvL w env n N ρ e P):EvO w env n N ρ e (fun K=>∃ a l,K=own w.params a l∧P l):=
 x.mono fun s v G s' i ⟨a,vs,m,l,e1,e2,e3,e4,r,p⟩=>⟨own w.params a l,⟨a,l,rfl,p⟩,⟨e1,vs,m,e4,r⟩,fun b hb=>by
  have:=List.mem_singleton.mp hb;subst this;exact ⟨by rw [e4];exact (fun h=>(nomatch h)),e2⟩,fun b hb=>by
  have:=List.mem_singleton.mp hb;subst this;exact ⟨hb,e3⟩⟩
theorem Ev.o {e:PySem.Expr} {P:D→Prop} (x:Ev w env n N ρ e P):EvO w env n N ρ e (fun K=>∃ d,K=dat w.params d∧P d):=
 x.mono fun s v G s' i ⟨d,r,p⟩=>⟨dat w.params d,⟨d,rfl,p⟩,r,(fun _ h=>(nomatch h)),(fun _ h=>(nomatch h))⟩
noncomputable def hold:List Kd→List Value→Rho
 | K::Ks,v::vs=>(none,K.at v)::hold Ks vs
 | _,_=>[]
theorem St.keepO {G₀ G G':Fz} {s₀ s s':Shared} {M:List Addr} {v:Value} (c:St w env G₀ s₀ M ρ G s) (y:∀ a,s.heap.get? a≠none→s'.heap.get? a≠none) (z:St w env G₀ s₀ M ρ G' s') {K:Kd} (hp:K.p v G' s'.heap) (h1:∀ a∈K.fp,s'.heap.get? a≠none∧s.heap.get? a=none) (h2:∀ a∈K.ow,a∈K.fp∧G' a=none) :
  St w env G₀ s₀ M ((none,K.at v)::ρ) G' s':=
 z.addF hp (fun a ha=>⟨(h1 a ha).1,fun e=>c.frL (e▸(h1 a ha).2),fun x cc hm e=>c.frC hm (e▸(h1 a ha).2)⟩)
  (fun a ha=>⟨(h2 a ha).1,(h2 a ha).2,.inr (Classical.byContradiction fun q=>c.step.dom a q (h1 a (h2 a ha).1).2)⟩)
  (fun q hq=>⟨fun a ha hm=>(c.fps q hq a hm).1 (h1 a (h2 a ha).1).2,fun a ha hm=>(c.fps q hq a (c.ows q hq a ha).1).1 (h1 a hm).2⟩)
noncomputable def TrsO (w:World) (env:Env) (n:Nat) (ρ:Rho) (ts:List (Bool×Sem Value)) (P:List Kd→Prop):Prop:=
 ∀ (A:Around) (G₀:Fz) (s₀:Shared) (M:List Addr) (G:Fz) (s:Shared) (Q:List Value→Shared→Prop) (E:Value→Shared→Prop),AOK n A→St w env G₀ s₀ M ρ G s→
  (∀ vs Ks G' s',P Ks→vs.length=ts.length→Ks.length=ts.length→Step G s [] G' s'→St w env G₀ s₀ M (hold Ks vs++ρ) G' s'→Q vs s')→wpAny (model pw w) A (spliced ts) Q E s
theorem trsO_nil {P:List Kd→Prop} (h:P []):TrsO w env n ρ [] P:=fun A G₀ s₀ M G s Q E a c k=>wpAny_pure (k [] [] G s h rfl rfl (Step.refl c.step.inn) c)
theorem trsO_cons {e:PySem.Expr} {ts:List (Bool×Sem Value)} {P1:Kd→Prop} {P:List Kd→Prop} (h1:EvO w env n [] ρ e P1) (h2:∀ K v,P1 K→TrsO w env n ((none,K.at v)::ρ) ts (fun Ks=>P (K::Ks))) :
  TrsO w env n ρ ((false,eval e env)::ts) P:=fun A G₀ s₀ M G s Q E a c k=>
 Calls.spliced_cons (h1 A G₀ s₀ M G s _ E a noN c fun v G1 s1 y1 z1 ⟨K,p,q1,q2,q3⟩=>h2 K v p A G₀ s₀ M G1 s1 _ E a (c.keepO y1.dom z1 q1 q2 q3) fun vs Ks G2 s2 pk l1 l2 y2 z2=>
  k (v::vs) (K::Ks) G2 s2 pk (by simp [l1]) (by simp [l2]) (y1.trans y2 fun _ h=>nomatch h) (z2.perm List.perm_middle))
theorem EvO.under {e:PySem.Expr} {P:Kd→Prop} {q:Option Str×Kd} (x:EvO w env n [] ρ e P):EvO w env n [] (q::ρ) e P:=EvK.frame x (List.sublist_cons_self _ _)
inductive UpdK:List Str→List Kd→Rho→Rho→Prop
 | nil {ρ:Rho}:UpdK [] [] ρ ρ
 | cons {x:Str} {K:Kd} {xs:List Str} {Ks:List Kd} {ρ ρ1 ρ':Rho}:Upd x K ρ ρ1→UpdK xs Ks ρ1 ρ'→UpdK (x::xs) (K::Ks) ρ ρ'
inductive Stores (w:World) (env:Env):List Str→List (Value→Sem Unit)→Prop
 | nil:Stores w env [] []
 | cons {x xs t ts}:LoC env x→(∀ (A:Around) v (Q:Unit→Shared→Prop) E s,wpAny (model pw w) A (storeName env x v) Q E s→wpAny (model pw w) A (t v) Q E s)→Stores w env xs ts→Stores w env (x::xs) (t::ts)
theorem Upd.holds {x:Str} {K:Kd} {Ks:List Kd} {vs:List Value} {ρ ρ':Rho} (h:Upd x K ρ ρ'):Upd x K (hold Ks vs++ρ) (hold Ks vs++ρ'):=by
 induction Ks generalizing vs with
 | nil=>exact h
 | cons _ _ ih=>
  cases vs with
  | nil=>exact h
  | cons _ _=>exact .skip (fun e=>nomatch e) ih
theorem stores {xs:List Str} {Ks:List Kd} {ρ':Rho} {A:Around} {G₀ G:Fz} {M:List Addr} {s₀:Shared} {Q:Unit→Shared→Prop} {E:Value→Shared→Prop} (hk:env.scope.kind=.function) (hu:UpdK xs Ks ρ ρ') :
  ∀ {ts:List (Value→Sem Unit)} {vs:List Value} {s:Shared},Stores w env xs ts→vs.length=xs.length→St w env G₀ s₀ M (hold Ks vs++ρ) G s→(∀ s',St w env G₀ s₀ M ρ' G s'→Q () s')→wpAny (model pw w) A (assignInOrder ts vs) Q E s:=by
 induction hu with
 | nil=>
  intro ts vs s hs hl c k
  cases hs
  have:vs=[]:=by simpa using hl
  subst this
  exact wpAny_pure (k _ c)
 | @cons x K xs Ks ρ ρ1 ρ' h1 h2 ih=>
  intro ts vs s hs hl c k
  cases hs with
  | cons hx ht hs=>
   cases vs with
   | nil=>simp at hl
   | cons v vs=>
    have c':St w env G₀ s₀ M ((none,K.at v)::(hold Ks vs++ρ)) G s:=c
    obtain ⟨sp,_⟩:=List.pairwise_cons.mp c'.sep
    refine wpAny_bind (wpAny_holding (ht _ _ _ _ _ ?_))
    refine c'.tail.store hk hx h1.holds (c'.vars _ (.head _)) (fun a ha=>c'.fps _ (.head _) a ha) (fun a ha=>c'.ows _ (.head _) a ha) (fun q hq _=>(sp q hq).2) fun s3 c3=>?_
    exact ih hs (by simpa using hl) c3 k
theorem st_tupB {elts ves:List PySem.Expr} {tpos vpos pos:Pos} {kk1 kk2} {rest:List Stmt} {xs:List Str} {ts:List (Bool×Sem Value)} {P:List Kd→Prop} {A:Around} {G₀ G:Fz} {M:List Addr} {s₀ s:Shared} {Q:Flow→Shared→Prop} {E:Value→Shared→Prop} {ρs:List Kd→Rho}
  (a:AOK n A) (c:St w env G₀ s₀ M ρ G s) (h:TrsO w env n ρ ts P) (ht:backTo vpos (starEach ves env)=ts) (hl:ts.length=xs.length) (hsz:ts.length≤100) (hk:env.scope.kind=.function)
  (road:(Stores w env xs ((assignEach elts env).map (·.2))∧(assignEach elts env).findIdx? (·.1)=none∧swappedStores [.Tuple elts kk1 tpos] (.Tuple ves kk2 vpos) env=pure none∧∀ Ks,P Ks→UpdK xs Ks ρ (ρs Ks))∨
   (Stores w env xs.reverse (xs.reverse.map fun x=>bindName env x)∧swappedStores [.Tuple elts kk1 tpos] (.Tuple ves kk2 vpos) env=pure (some xs)∧∀ Ks,P Ks→UpdK xs.reverse Ks.reverse ρ (ρs Ks)))
  (k:∀ Ks G' s',P Ks→St w env G₀ s₀ M (ρs Ks) G' s'→wpAny (model pw w) A (execs rest env) Q E s')
  (hs:swapsWithSole [.Tuple elts kk1 tpos] (.Tuple ves kk2 vpos) pos.line env=pure false:=by rfl) :
  wpAny (model pw w) A (execs (.Assign [.Tuple elts kk1 tpos] (.Tuple ves kk2 vpos) pos::rest) env) Q E s:=by
 have made:∀ Qv:Value→Shared→Prop,(∀ t vs Ks G1 s1,P Ks→vs.length=ts.length→Ks.length=ts.length→IsTup s1.heap t vs.toArray→St w env G₀ s₀ M (hold Ks vs++ρ) G1 s1→Qv (.ref t) s1)→wpAny (model pw w) A (eval (.Tuple ves kk2 vpos) env) Qv E s:=fun Qv kv=>
  Tuple_ (by
   rw [ht]
   exact h A G₀ s₀ M G s _ E a c fun vs Ks G1 s1 p l1 l2 y1 z1=>by
    unfold newTuple
    refine wpAny_newObj_type ?_ (by show vs.toArray.size≤sizeLine;rw [List.size_toArray,l1,sizeLine_eq];exact q1 ‹_›)
    exact kv _ vs Ks G1 _ p l1 l2 ⟨_,Heap.get?_push_size _ rfl,rfl,0,rfl⟩ (z1.pure (Step.push (N:=[]) z1.step.inn (tupO vs.toArray 0) s1.toks)))
 have ext:∀ {G1:Fz} {s1:Shared} {ρ1:Rho} {h':Heap},St w env G₀ s₀ M ρ1 G1 s1→Heap.ExtBut s1.heap.objs.size s1.heap h'→St w env G₀ s₀ M ρ1 G1 {s1 with heap:=h'}:=fun {G1 s1 ρ1 h'} z he=>
  z.pure (Step.of_keeps z.step.inn ⟨h',s1.toks,rfl,fun b o e=>he b o (fun q=>by rw [q,fresh_size] at e;cases e) e⟩)
 rcases road with ⟨r1,r2,r3,r4⟩ | ⟨r1,r2,r3⟩
 ·refine wpAny_execs_cons (Assign_Tuple (made _ fun t vs Ks G1 s1 p l1 l2 ht z1=>?_) hs r3)
  have hle:((assignEach elts env).map (·.2)).length=xs.length:=by
   have:∀ {xs:List Str} {ts:List (Value→Sem Unit)},Stores w env xs ts→ts.length=xs.length:=fun h=>by induction h with
    | nil=>rfl
    | cons _ _ _ ih=>simp [ih]
   exact this r1
  rw [List.length_map] at hle
  refine assign_Tuple_tuple a.2.2 ht (by simp [hle,l1,hl]) r2 fun h' he=>?_
  exact stores hk (r4 Ks p) r1 (by simp [l1,hl]) (ext z1 he) fun s' c'=>k Ks G1 s' p c'
 ·refine wpAny_execs_cons (Assign_Tuple_swapped (made _ fun t vs Ks G1 s1 p l1 l2 ht z1=>?_) hs r2)
  have hx:xs.length=vs.toArray.size:=by simp [l1,hl]
  rw [hx]
  refine PyProof.Rows.unpackItems_tuple a.2.2 ht fun h' he=>?_
  have hrev:∀ (Ks:List Kd) (vs:List Value),Ks.length=vs.length→(hold Ks vs).Perm (hold Ks.reverse vs.reverse):=by
   have app:∀ (Ks:List Kd) (vs:List Value) (K:Kd) (v:Value),Ks.length=vs.length→hold (Ks++[K]) (vs++[v])=hold Ks vs++[(none,K.at v)]:=by
    intro Ks
    induction Ks with
    | nil=>intro vs K v hl;cases vs with
     | nil=>rfl
     | cons _ _=>simp at hl
    | cons K' Ks ih=>intro vs K v hl;cases vs with
     | nil=>simp at hl
     | cons v' vs=>simp only [List.cons_append,hold];rw [ih vs K v (by simpa using hl)]
   intro Ks
   induction Ks with
   | nil=>intro vs hl;cases vs with
    | nil=>exact .refl _
    | cons _ _=>simp at hl
   | cons K Ks ih=>intro vs hl;cases vs with
    | nil=>simp at hl
    | cons v vs=>
     rw [List.reverse_cons,List.reverse_cons,app _ _ _ _ (by simpa using hl)]
     exact ((ih vs (by simpa using hl)).cons _).trans (List.perm_append_singleton _ _).symm
  refine stores hk (r3 Ks p) r1 (by simp [l1,hl]) ((ext z1 he).perm ((hrev Ks vs (by omega)).append_right _)) fun s' c'=>k Ks G1 s' p c'
inductive UpdL (P:Params):List Str→List D→Rho→Rho→Prop
 | nil {ρ:Rho}:UpdL P [] [] ρ ρ
 | cons {x:Str} {d:D} {xs:List Str} {ds:List D} {ρ ρ1 ρ':Rho}:Upd x (dat P d) ρ ρ1→UpdL P xs ds ρ1 ρ'→UpdL P (x::xs) (d::ds) ρ ρ'
theorem storesL {xs:List Str} {ds:List D} {ρ':Rho} {A:Around} {G₀ G:Fz} {M:List Addr} {s₀:Shared} {Q:Unit→Shared→Prop} {E:Value→Shared→Prop} (hk:env.scope.kind=.function) (hu:UpdL w.params xs ds ρ ρ') :
  ∀ {ts:List (Value→Sem Unit)} {vs:List Value} {s:Shared},Stores w env xs ts→RepL w.params G vs ds→St w env G₀ s₀ M ρ G s→(∀ s',St w env G₀ s₀ M ρ' G s'→Q () s')→wpAny (model pw w) A (assignInOrder ts vs) Q E s:=by
 induction hu with
 | nil=>
  intro ts vs s hs r c k
  cases hs
  obtain ⟨_,rfl⟩:=r.inv
  exact wpAny_pure (k _ c)
 | cons h1 h2 ih=>
  intro ts vs s hs r c k
  cases hs with
  | cons hx ht hs=>
   obtain ⟨_,_,rfl,r1,r2⟩:=r.inv
   ·
    refine wpAny_bind (wpAny_holding (ht _ _ _ _ _ ?_))
    exact c.store hk hx h1 r1 (fun _ h=>nomatch h) (fun _ h=>nomatch h) (fun q _ _=>⟨(fun _ h=>nomatch h),(fun _ _ h=>nomatch h)⟩) fun s3 c3=>ih hs r2 c3 k
theorem asg_tup {elts:List PySem.Expr} {kk tpos} {xs:List Str} {ds:List D} {v:Value} {ρ':Rho} {A:Around} {G₀ G:Fz} {M:List Addr} {s₀ s:Shared} {Q:Unit→Shared→Prop} {E:Value→Shared→Prop} (hh:A.handled=none) (c:St w env G₀ s₀ M ρ G s) (r:Rep w.params G v (.tup ds))
  (hk:env.scope.kind=.function) (hu:UpdL w.params xs ds ρ ρ') (r1:Stores w env xs ((assignEach elts env).map (·.2))) (r2:(assignEach elts env).findIdx? (·.1)=none) (hl:(assignEach elts env).length=ds.length)
  (k:∀ s',St w env G₀ s₀ M ρ' G s'→Q () s'):wpAny (model pw w) A (assign (.Tuple elts kk tpos) env v) Q E s:=by
 replace r:=r.inv;obtain ⟨ad,vs,m,rfl,hg,r⟩:=r
 ·
  have hg':=c.step.inn _ _ hg
  have ha:=r.arr
  refine assign_Tuple_tuple hh ⟨_,hg',rfl,m,rfl⟩ (by omega) r2 fun h' he=>?_
  exact storesL hk hu r1 r (c.pure (Step.of_keeps c.step.inn ⟨h',s.toks,rfl,fun b o e=>he b o (fun q=>by rw [q,fresh_size] at e;cases e) e⟩)) k
theorem st_tupD {elts:List PySem.Expr} {e:PySem.Expr} {kk tpos pos} {rest:List Stmt} {xs:List Str} {P:List D→Prop} {A:Around} {G₀ G:Fz} {M:List Addr} {s₀ s:Shared} {Q:Flow→Shared→Prop} {E:Value→Shared→Prop} {ρs:List D→Rho}
  (a:AOK n A) (hN:∀ a∈N,a∈M) (c:St w env G₀ s₀ M ρ G s) (he:Ev w env n N ρ e (fun d=>∃ l,d=.tup l∧P l)) (hk:env.scope.kind=.function) (hu:∀ l,P l→UpdL w.params xs l ρ (ρs l))
  (r1:Stores w env xs ((assignEach elts env).map (·.2))) (r2:(assignEach elts env).findIdx? (·.1)=none) (hl:∀ l,P l→(assignEach elts env).length=l.length)
  (k:∀ l G' s',P l→St w env G₀ s₀ M (ρs l) G' s'→wpAny (model pw w) A (execs rest env) Q E s')
  (hs:swapsWithSole [.Tuple elts kk tpos] e pos.line env=pure false:=by rfl) (hw:swappedStores [.Tuple elts kk tpos] e env=pure none:=by rfl) :
  wpAny (model pw w) A (execs (.Assign [.Tuple elts kk tpos] e pos::rest) env) Q E s:=
 wpAny_execs_cons (Assign_Tuple (he A G₀ s₀ M G s _ E a hN c fun v G1 s1 y1 z1 ⟨d,r,l,e1,p⟩=>by
  subst e1
  exact asg_tup a.2.2 z1 r hk (hu l p) r1 r2 (hl l p) fun s' c'=>k l G1 s' p c') hs hw)
theorem Stores.name {x:Str} {p:Pos} {xs:List Str} {ts:List (Value→Sem Unit)} (hx:LoC env x) (r:Stores w env xs ts):Stores w env (x::xs) (assign (.Name x p) env::ts):=.cons hx (fun _ _ _ _ _ h=>wpAny_assign_Name h) r
theorem Stores.bind {x:Str} {xs:List Str} {ts:List (Value→Sem Unit)} (hx:LoC env x) (r:Stores w env xs ts):Stores w env (x::xs) ((fun v=>bindName env x v)::ts):=.cons hx (fun _ _ _ _ _ h=>wpAny_bindName h) r
end Mine
end
section
namespace Mine
variable {w:World} {env:Env} {n:Nat} {N:List Addr} {ρ:Rho}
inductive FS (P:Params):List DictEntry→List (Str×Value)→Prop
 | nil:FS P [] []
 | cons {x t v es fs}:FS P es fs→FS P (⟨PyData.keyHash P x,.str x t,v⟩::es) ((x,v)::fs)
theorem FS.any {P:Params} {es:List DictEntry} {fs:List (Str×Value)} (h:FS P es fs):es.any (·.refKey)=false:=by
 induction h with
 | nil=>rfl
 | cons _ ih=>rw [List.any_cons,ih];rfl
theorem FS.getL {P:Params} {name:Str} {es:List DictEntry} {fs:List (Str×Value)} (h:FS P es fs):getL name es=some (look fs name):=by
 induction h with
 | nil=>rfl
 | @cons x t v es fs h ih=>
  have ha:=h.any
  have hb:(Value.str x t).isStr name=decide (x=name):=rfl
  unfold PySem.W.getL at ih ⊢
  unfold look at ih ⊢
  rw [ha] at ih
  simp only [List.find?_cons,hb,List.any_cons,ha]
  by_cases q:x=name
  ·simp [q]
  ·simp only [q,decide_false]
   exact ih
theorem FS.put {P:Params} {name:Str} {v:Value} {t:Tok} {es:List DictEntry} {fs:List (Str×Value)} (h:FS P es fs) (e:look fs name=none):FS P (putL name (PyData.keyHash P name) (.str name t) v es) (fs++[(name,v)]):=by
 induction h with
 | nil=>exact .cons .nil
 | @cons x t' v' es fs h ih=>
  have hb:(Value.str x t').isStr name=decide (x=name):=rfl
  unfold look at e ih
  by_cases q:x=name
  ·simp [q] at e
  ·unfold putL
   rw [hb,if_neg (by simp [q])]
   refine .cons (ih ?_)
   simpa [List.find?_cons,q] using e
theorem FS.length {P:Params} {es:List DictEntry} {fs:List (Str×Value)} (h:FS P es fs):es.length=fs.length:=by
 induction h with
 | nil=>rfl
 | cons _ ih=>rw [List.length_cons,List.length_cons,ih]
noncomputable def inst (P:Params) (x dx C:Addr) (fs:List (Str×Value)):Kd:=
 ⟨fun v _ h=>v=.ref x∧h.get? x=some (instObj C dx)∧∃ es n,h.get? dx=some (dictOf es n)∧FS P es fs,[x,dx],[dx],
  fun _ he ⟨a,b,es,n,c,d⟩=>⟨a,he x (by simp) _ b,es,n,he dx (by simp) _ c,d⟩⟩
theorem inst_at {P:Params} {x dx C:Addr} {fs:List (Str×Value)} {v:Value} {G:Fz} {h:Heap} (i:(inst P x dx C fs).p v G h):∃ es n,InstAt h x (instObj C dx) C (some (dictOf es n))∧FS P es fs:=by
 obtain ⟨_,h1,es,n,h2,h3⟩:=i
 exact ⟨es,n,⟨h1,rfl,rfl,h2⟩,h3⟩
theorem evk_attr {o:PySem.Expr} {attr:Str} {pos:Pos} {x dx C:Addr} {fs:List (Str×Value)} {v:Value} {nm:Option Str} {K:Kd} (ho:EvV w env n N ρ o (.ref x)) (hm:(nm,K)∈ρ) (hK:K.p=(inst w.params x dx C fs).p) (hv:look fs attr=some v)
  (hg:plainGet (KK w.params) C attr=true) (hh:hasDictIn (KK w.params) C=true) (ha:findIn (KK w.params) (.ref C) attr=some none) (hhd:handedIn v=true)
  (hbase:attributeBase o attr env (eval o env)=eval o env) (ht:∀ a b,letTemporaryGo o a b=pure ():=by intro _ _;rfl):EvV w env n N ρ (.Attribute o attr pos) v:=fun A G₀ s₀ M G s Q E a b c k=>by
 rw [arm_eval_Attribute,hbase]
 refine wpAny_bind (ho A G₀ s₀ M G s _ E a b c fun u G1 s1 y1 z1 e=>wpAny_bind (wpAny_standAt (wpAny_bind (wpAny_holding ?_))))
 subst e
 have hp:∃ u,(inst w.params x dx C fs).p u G1 s1.heap:=by
  have:=z1.vars _ hm
  cases nm with
  | none=>refine ⟨.none,?_⟩;rw [← hK];exact this
  | some y=>obtain ⟨u,_,h⟩:=this;refine ⟨u,?_⟩;rw [← hK];exact h
 obtain ⟨u,hp⟩:=hp
 obtain ⟨es,m,I,f⟩:=inst_at hp
 refine get_value z1.bs.K I (plainGet_of hg).1 (findObj_own hh ha rfl (by rw [lookIn_dict,f.getL,hv])) hhd ?_
 refine wpAny_bind (wpAny_of_eq (ht _ _) (wpAny_pure ?_))
 exact k _ G1 _ (y1.trans (Step.tk y1.inn _) fun q hq=>.inl hq) (z1.toks _) rfl
theorem ev_fact {e:PySem.Expr} {v:Value} {d:D} (he:EvV w env n N ρ e v) (h:(none,(dat w.params d).at v)∈ρ):Ev w env n N ρ e (fun x=>x=d):=fun A G₀ s₀ M G s Q E a b c k=>
 he A G₀ s₀ M G s _ E a b c fun u G1 s1 y1 z1 e=>by subst e;exact k _ G1 s1 y1 z1 ⟨d,z1.vars _ h,rfl⟩
section
variable {A:Around} {E:Value→Shared→Prop} {Q:Value→Shared→Prop} {s:Shared} {fa:Addr} {fd:FuncData} {body:List Stmt}
theorem callWith_own0 {pos:Pos} (ff:FnFacts w fa fd body) {first:List Value} (hK:HF w s.heap) (h:wpAny (model pw w) A (call (.ref fa) first) Q E s):wpAny (model pw w) A (callWith pos (.ref fa) first [] []) Q E s:=
 callWith_function_kw (o:=⟨.type "function",none,.func fd,#[]⟩) (fd:=fd) (evalArgs_nil3 (Q:=fun x s₁=>(s₁.heap.get? fa=some _∧_=_)∧wpAny (model pw w) A (call (.ref fa) (first++x.pos) x.kw) Q E s₁) ⟨⟨hK.K _ _ ff.at_,rfl⟩,by simpa using h⟩)
theorem callWith_own1 {pos:Pos} (ff:FnFacts w fa fd body) {first:List Value} {e0:Sem Value} {r:List (Bool×Sem Value)}
  (h:wpAny (model pw w) A (spliced ((false,e0)::r)) (fun vs s₁=>HF w s₁.heap∧wpAny (model pw w) A (call (.ref fa) (first++vs)) Q E s₁) E s):wpAny (model pw w) A (callWith pos (.ref fa) first ((false,e0)::r) []) Q E s:=
 callWith_function_kw (Calls.evalArgs_plain (wpAny_mono h (fun vs s1 ⟨h1,h2⟩=>⟨⟨h1.K _ _ ff.at_,rfl⟩,h2⟩) fun _ _ x=>x))
theorem meth_wp {o:PySem.Expr} {nm:Str} {apos pos:Pos} {args:List PySem.Expr} {x C:Addr} {ts:List (Bool×Sem Value)} (ht:backTo pos (starEach args env)=ts)
  (hbase:attributeBase o nm env (eval o env)=eval o env) (hline:(apos.endLine==pos.line)=true) (hform:methodCallForm (args.length+([]:List Keyword).length) ts (backToKw pos (keywordEach [] env))=true)
  (hg:plainGet (KK w.params) C nm=true) (hf:findIn (KK w.params) (.ref C) nm=some (some (.ref fa))) (hfn:isFn (KK w.params) (.ref fa)=true)
  (h:wpAny (model pw w) A (eval o env) (fun ov s₁=>ov=.ref x∧HF w s₁.heap∧(∃ dx fs v G,look fs nm=none∧(inst w.params x dx C fs).p v G s₁.heap)∧wpAny (model pw w) A (callWith pos (.ref fa) [.ref x] ts []) Q E s₁) E s) :
  wpAny (model pw w) A (eval (.Call (.Attribute o nm apos) args [] pos) env) Q E s:=by
 subst ht
 rw [arm_eval_Call,hbase]
 refine wpAny_bind (wpAny_mono h (fun ov s₁ h₁=>?_) fun _ _ e=>e)
 obtain ⟨rfl,hF,⟨dx,fs,v,G,hl,hi⟩,hc⟩:=h₁
 obtain ⟨es,m,I,f⟩:=inst_at hi
 refine wpAny_bind (wpAny_standAt ?_)
 have hpos:methodCallPos true o env apos pos=pure pos:=by unfold methodCallPos;simp [hline]
 unfold methodCall
 rw [hform]
 refine wpAny_bind (wpAny_holding (method_fn hF.K I (plainGet_of hg).1 (plainGet_of hg).2 hf (beq_iff_eq.mp hfn) (by show (lookIn nm (dictOf es m)).map _=_;rw [lookIn_dict,f.getL,hl];rfl) ?_))
 exact wpAny_bind (wpAny_of_eq hpos hc)
end
structure InstIn (w:World) (ρ:Rho) (x C:Addr) (nm:Str) (q:Option Str×Kd) (dx:Addr) (fs:List (Str×Value)):Prop where
 mem:q∈ρ
 p:q.2.p=(inst w.params x dx C fs).p
 no:look fs nm=none
theorem InstIn.at {x C:Addr} {nm:Str} {q:Option Str×Kd} {dx:Addr} {fs:List (Str×Value)} (i:InstIn w ρ x C nm q dx fs) {G:Fz} {h:Heap} (hh:∀ q∈ρ,Holds env G h q):∃ dx fs v G,look fs nm=none∧(inst w.params x dx C fs).p v G h:=by
 obtain ⟨y,K⟩:=q
 have:=hh _ i.mem
 have hp:=i.p
 cases y with
 | none=>exact ⟨dx,fs,.none,G,i.no,by rw [← hp];exact this⟩
 | some y=>obtain ⟨u,_,h⟩:=this;exact ⟨dx,fs,u,G,i.no,by rw [← hp];exact h⟩
theorem evk_meth {o:PySem.Expr} {nm:Str} {apos pos:Pos} {args:List PySem.Expr} {x C:Addr} {fa:Addr} {fd:FuncData} {body:List Stmt} {q dx fs} {PA:List D→Prop} {K:Shared→Value→Fz→Shared→Prop} {ts:List (Bool×Sem Value)} (ff:FnFacts w fa fd body)
  (ho:EvV w env n [] ρ o (.ref x)) (hi:InstIn w ρ x C nm q dx fs) (ha:Trs w env n [] ρ ts PA) (ht:backTo pos (starEach args env)=ts) (hts:(ts=[]∧PA [])∨∃ e r,ts=(false,e)::r)
  (hg:plainGet (KK w.params) C nm=true) (hf:findIn (KK w.params) (.ref C) nm=some (some (.ref fa))) (hfn:isFn (KK w.params) (.ref fa)=true)
  (he:∀ s0 s v G' s',K s v G' s'→(∀ a,s0.heap.get? a≠none→s.heap.get? a≠none)→K s0 v G' s')
  (hop:∀ G s vs ds,Inn G s.heap→Bs w G→(∀ q∈ρ,Holds env G s.heap q)→RepL w.params G vs ds→PA ds→Op w n [] G s (call (.ref fa) (.ref x::vs)) (K s))
  (hbase:attributeBase o nm env (eval o env)=eval o env) (hline:(apos.endLine==pos.line)=true) (hform:methodCallForm (args.length+([]:List Keyword).length) ts (backToKw pos (keywordEach [] env))=true) :
  EvK w env n [] ρ (.Call (.Attribute o nm apos) args [] pos) K:=fun A G₀ s₀ M G s Q E a b c k=>by
 refine meth_wp ht hbase hline hform hg hf hfn (ho A G₀ s₀ M G s _ E a b c fun v G1 s1 y1 z1 e=>⟨e,z1.bs,hi.at z1.vars,?_⟩)
 have fin:∀ G2 s2 vs ds,Step G1 s1 [] G2 s2→St w env G₀ s₀ M ρ G2 s2→RepL w.params G2 vs ds→PA ds→wpAny (model pw w) A (call (.ref fa) (.ref x::vs)) Q E s2:=fun G2 s2 vs ds y2 z2 r p=>by
  have y:=y1.trans y2 fun q hq=>.inl hq
  exact hop G2 s2 vs ds z2.step.inn z2.HFG z2.vars r p A _ _ a fun v G3 s3 y3 q=>k v G3 s3 (y.trans y3 fun _ h=>nomatch h) (z2.pure y3) (he _ _ _ _ _ q y.dom)
 rcases hts with ⟨rfl,hp⟩ | ⟨e0,r0,rfl⟩
 ·exact callWith_own0 ff z1.bs (fin G1 s1 [] [] (Step.refl z1.step.inn) z1 .nil hp)
 ·exact callWith_own1 ff (ha A G₀ s₀ M G1 s1 _ E a b z1 fun vs G2 s2 ds y2 z2 r p hl=>⟨z2.bs,fin G2 s2 vs ds y2 z2 r p⟩)
end Mine
end
section
namespace Mine
variable {w:World} {env:Env} {n:Nat} {N:List Addr} {ρ:Rho}
noncomputable def selfR (w:World) (x dx:Addr) (fs:List (Str×Value)) (F:List Kd):Rho:=(some ("self" : Str),(inst w.params x dx 257 fs).ro)::F.map fun K=>(none,K)
theorem op_met {fa:Addr} {fd:FuncData} {body:List Stmt} (ff:FnFacts w fa fd body) {vs:List Value} {ds:List D} {G:Fz} {s:Shared} {K:Value→Fz→Shared→Prop} (xs:List Str) {x dx:Addr} {fs:List (Str×Value)} (F:List Kd)
  (hbind:∀ v vs,vs.length=xs.length→bindArgs fd ⟨v::vs,[]⟩=pure ((("self" : Str),v)::xs.zip vs)) (hnd:(("self" : Str)::xs).Nodup) (hkind:∀ y∈("self" : Str)::xs,fd.scope.names.lookup y=some .local∨fd.scope.names.lookup y=some .cell)
  (i:Inn G s.heap) (b:Bs w G) (hs:(inst w.params x dx 257 fs).p (.ref x) G s.heap) (hF:∀ K∈F,K.ow=[]∧K.p .none G s.heap∧∀ a∈K.fp,s.heap.get? a≠none) (r:RepL w.params G vs ds) (hl:ds.length=xs.length)
  (h:∀ env A s₁ (Q:Flow→Shared→Prop) (E:Value→Shared→Prop),env=callEnvC fd s.heap.objs.size fa→AOK n A→St w env G s [] (selfR w x dx fs F++rhoOf w.params xs ds) G s₁→(∀ f G' s',Step G s [] G' s'→K (match f with | .ret v=>v | _=>.none) G' s'→Q f s')→
   wpAny (model pw w) A (execs body env) Q E s₁):Op w (n+1) [] G s (call (.ref fa) (.ref x::vs)) K:=by
 have hvl:vs.length=xs.length:=r.length.trans hl
 have hz:((("self" : Str),Value.ref x)::xs.zip vs).map (·.1)=("self" : Str)::xs:=by rw [List.map_cons,List.map_fst_zip];omega
 obtain ⟨h1,h2⟩:=List.nodup_cons.mp hnd
 have mem:∀ q∈selfR w x dx fs F++rhoOf w.params xs ds,q=(some ("self" : Str),(inst w.params x dx 257 fs).ro)∨(∃ K∈F,q=(none,K))∨q∈rhoOf w.params xs ds:=fun q hq=>by
  rcases List.mem_append.mp hq with hq | hq
  ·rcases List.mem_cons.mp hq with e | hq
   ·exact .inl e
   ·obtain ⟨K,hK,e⟩:=List.mem_map.mp hq
    exact .inr (.inl ⟨K,hK,e.symm⟩)
  ·exact .inr (.inr hq)
 have ow0:∀ q∈selfR w x dx fs F++rhoOf w.params xs ds,q.2.ow=[]:=fun q hq=>by
  rcases mem q hq with e | ⟨K,hK,e⟩ | hq
  ·subst e;rfl
  ·subst e;exact (hF K hK).1
  ·obtain ⟨y,d,v,rfl,h1,h2⟩:=rhoOf_mem r q hq;rfl
 refine op_fn ff (hbind _ vs hvl) (by rw [hz];exact hnd) (by rw [hz];exact hkind) i b (fun q hq=>?_) (fun q hq=>?_) (fun q hq a ha=>by rw [ow0 q hq] at ha;exact nomatch ha) (ro_sep ow0 ?_) h
 ·rcases mem q hq with e | ⟨K,hK,e⟩ | hq
  ·subst e;exact ⟨.ref x,by simp,hs⟩
  ·subst e;exact (hF K hK).2.1
  ·obtain ⟨y,d,v,rfl,h1,h2⟩:=rhoOf_mem r q hq
   exact ⟨v,by simp [h1],h2⟩
 ·rcases mem q hq with e | ⟨K,hK,e⟩ | hq
  ·subst e
   obtain ⟨_,g1,es,m,g2,_⟩:=hs
   intro a ha
   rcases List.mem_cons.mp ha with e | ha
   ·rw [e,g1];exact (fun h=>(nomatch h))
   ·rw [List.mem_singleton.mp ha,g2];exact (fun h=>(nomatch h))
  ·subst e;exact (hF K hK).2.2
  ·obtain ⟨y,d,v,rfl,h1,h2⟩:=rhoOf_mem r q hq;exact fun _ h=>nomatch h
 ·have rs:=rhoOf_sep (P:=w.params) (ds:=ds) h2
  refine List.pairwise_append.mpr ⟨List.pairwise_cons.mpr ⟨fun q hq=>?_,?_⟩,rs.imp fun h=>h.1,fun p hp q hq=>?_⟩
  ·obtain ⟨K,_,e⟩:=List.mem_map.mp hq
   subst e;exact .inr (fun e=>nomatch e)
  ·rw [List.pairwise_map]
   exact List.pairwise_of_forall fun _ _=>.inl rfl
  ·obtain ⟨y,hy,e⟩:=rhoOf_names q hq
   rcases List.mem_cons.mp hp with e1 | hp
   ·subst e1
    refine .inr fun e2=>h1 ?_
    rw [e] at e2
    cases e2
    exact hy
   ·obtain ⟨K,_,e1⟩:=List.mem_map.mp hp
    subst e1;exact .inl rfl
theorem bindS1 {fd:FuncData} {x:Str} (h:∀ s v,bindArgs fd ⟨[s,v],[]⟩=pure [(("self" : Str),s),(x,v)]) (s:Value) (vs:List Value) (hl:vs.length=[x].length):bindArgs fd ⟨s::vs,[]⟩=pure ((("self" : Str),s)::[x].zip vs):=by
 obtain ⟨v,l,rfl,h1⟩:=len_succ (n:=0) hl
 obtain rfl:=List.length_eq_zero_iff.mp h1
 exact h s v
theorem bindS0 {fd:FuncData} (h:∀ s,bindArgs fd ⟨[s],[]⟩=pure [(("self" : Str),s)]) (s:Value) (vs:List Value) (hl:vs.length=([]:List Str).length):bindArgs fd ⟨s::vs,[]⟩=pure ((("self" : Str),s)::[].zip vs):=by
 obtain rfl:=List.length_eq_zero_iff.mp hl
 exact h s
noncomputable def entL (rows:List (Str×Sg)):List (Str×D):=rows.map fun p=>(p.1,encS p.2)
theorem entL_look {rows:List (Str×Sg)} {x:Str} {t:Sg} (h:look rows x=some t):look (entL rows) x=some (encS t):=by
 unfold look entL at *
 rw [List.find?_map]
 obtain ⟨p,hp,rfl⟩:=Option.map_eq_some_iff.mp h
 show Option.map _ (Option.map _ (rows.find? fun p=>decide (p.1=x)))=_
 rw [hp];rfl
theorem ff_parent:FnFacts w 177 (metFd 11 "parent" 176) (methAt 7 11).2.1:=⟨rfl,rfl,rfl,by decide +kernel,rfl,rfl,rfl⟩
theorem ff_spot:FnFacts w 170 (metFd 10 "spot" 169) (methAt 7 10).2.1:=⟨rfl,rfl,rfl,by decide +kernel,rfl,rfl,rfl⟩
theorem ff_supers:FnFacts w 184 (metFd 12 "supers" 183) (methAt 7 12).2.1:=⟨rfl,rfl,rfl,by decide +kernel,rfl,rfl,rfl⟩
theorem ff_subset:FnFacts w 191 (metFd 13 "is_subset" 190) (methAt 7 13).2.1:=⟨rfl,rfl,rfl,by decide +kernel,rfl,rfl,rfl⟩
theorem ff_mdirect:FnFacts w 125 (metFd 3 "direct" 124) (methAt 7 3).2.1:=⟨rfl,rfl,rfl,by decide +kernel,rfl,rfl,rfl⟩
theorem ff_above:FnFacts w 219 (metFd 17 "all_above" 218) (methAt 7 17).2.1:=⟨rfl,rfl,rfl,by decide +kernel,rfl,rfl,rfl⟩
theorem ff_names:FnFacts w 156 (metFd 8 "names" 155) (methAt 7 8).2.1:=⟨rfl,rfl,rfl,by decide +kernel,rfl,rfl,rfl⟩
theorem ff_has:FnFacts w 163 (metFd 9 "has" 162) (methAt 7 9).2.1:=⟨rfl,rfl,rfl,by decide +kernel,rfl,rfl,rfl⟩
theorem ff_fields:FnFacts w 240 (metFd 20 "fields" 239) (methAt 7 20).2.1:=⟨rfl,rfl,rfl,by decide +kernel,rfl,rfl,rfl⟩
theorem ff_init:FnFacts w 104 (metFd 0 "__init__" 103) (methAt 7 0).2.1:=⟨rfl,rfl,rfl,by decide +kernel,rfl,rfl,rfl⟩
theorem ff_take:FnFacts w 111 (metFd 1 "take_sig" 110) (methAt 7 1).2.1:=⟨rfl,rfl,rfl,by decide +kernel,rfl,rfl,rfl⟩
theorem ff_look:FnFacts w 118 (metFd 2 "look_above" 117) (methAt 7 2).2.1:=⟨rfl,rfl,rfl,by decide +kernel,rfl,rfl,rfl⟩
theorem ff_first:FnFacts w 130 (metFd 4 "parents_first" 129) (methAt 7 4).2.1:=⟨rfl,rfl,rfl,by decide +kernel,rfl,rfl,rfl⟩
theorem ff_allf:FnFacts w 137 (metFd 5 "all_fields" 136) (methAt 7 5).2.1:=⟨rfl,rfl,rfl,by decide +kernel,rfl,rfl,rfl⟩
theorem ff_lookf:FnFacts w 144 (metFd 6 "look_fields" 143) (methAt 7 6).2.1:=⟨rfl,rfl,rfl,by decide +kernel,rfl,rfl,rfl⟩
theorem ff_order:FnFacts w 149 (metFd 7 "take_order" 148) (methAt 7 7).2.1:=⟨rfl,rfl,rfl,by decide +kernel,rfl,rfl,rfl⟩
theorem ff_draw:FnFacts w 273 (lawFd 10 "_law_draw" 272) (fnAt 10).2.1:=⟨rfl,rfl,rfl,by decide +kernel,rfl,rfl,rfl⟩
theorem ff_sig:FnFacts w 280 (lawFd 11 "_law_sig" 279) (fnAt 11).2.1:=⟨rfl,rfl,rfl,by decide +kernel,rfl,rfl,rfl⟩
theorem ff_model:FnFacts w 285 (lawFd 12 "_law_model" 284) (fnAt 12).2.1:=⟨rfl,rfl,rfl,by decide +kernel,rfl,rfl,rfl⟩
theorem ff_rows:FnFacts w 290 (lawFd 13 "_law_rows" 289) (fnAt 13).2.1:=⟨rfl,rfl,rfl,by decide +kernel,rfl,rfl,rfl⟩
theorem ff_told:FnFacts w 302 (lawFd 15 "_law_told" 301) (fnAt 15).2.1:=⟨rfl,rfl,rfl,by decide +kernel,rfl,rfl,rfl⟩
theorem ff_labove:FnFacts w 309 (lawFd 16 "_law_above" 308) (fnAt 16).2.1:=⟨rfl,rfl,rfl,by decide +kernel,rfl,rfl,rfl⟩
theorem ff_groups:FnFacts w 314 (lawFd 17 "_law_groups" 313) (fnAt 17).2.1:=⟨rfl,rfl,rfl,by decide +kernel,rfl,rfl,rfl⟩
theorem ff_taken:FnFacts w 319 (lawFd 18 "_law_taken" 318) (fnAt 18).2.1:=⟨rfl,rfl,rfl,by decide +kernel,rfl,rfl,rfl⟩
theorem ff_put:FnFacts w 326 (lawFd 19 "_law_put" 325) (fnAt 19).2.1:=⟨rfl,rfl,rfl,by decide +kernel,rfl,rfl,rfl⟩
theorem ff_ofname:FnFacts w 331 (lawFd 20 "_law_of_name" 330) (fnAt 20).2.1:=⟨rfl,rfl,rfl,by decide +kernel,rfl,rfl,rfl⟩
theorem ff_bsigs:FnFacts w 336 (lawFd 21 "_law_bent_sigs" 335) (fnAt 21).2.1:=⟨rfl,rfl,rfl,by decide +kernel,rfl,rfl,rfl⟩
theorem ff_brest:FnFacts w 341 (lawFd 22 "_law_bent_rest" 340) (fnAt 22).2.1:=⟨rfl,rfl,rfl,by decide +kernel,rfl,rfl,rfl⟩
theorem ff_lspot:FnFacts w 348 (lawFd 23 "_law_spot" 347) (fnAt 23).2.1:=⟨rfl,rfl,rfl,by decide +kernel,rfl,rfl,rfl⟩
theorem ff_law:FnFacts w 353 (lawFd 24 "law" 352) (fnAt 24).2.1:=⟨rfl,rfl,rfl,by decide +kernel,rfl,rfl,rfl⟩
end Mine
end
section
namespace Mine
variable {w:World} {env:Env} {n:Nat} {N:List Addr} {ρ:Rho}
noncomputable def attrs:List Str:=["entries","stands","opened","ordered","own_fields"]
structure Rd (w:World) (x dx:Addr) (fs:List (Str×Value)) (rows:List (Str×Sg)) (ve:Value) (G:Fz) (s:Shared):Prop where
 inst:(inst w.params x dx 257 fs).p (.ref x) G s.heap
 att:look fs "entries" = some ve
 rep:Rep w.params G ve (.dct (entL rows))
 no:∀ y,look fs y≠none→y∈attrs
noncomputable def entK (w:World) (rows:List (Str×Sg)) (ve:Value):Kd:=(dat w.params (.dct (entL rows))).at ve
theorem Rd.facts {x dx:Addr} {fs:List (Str×Value)} {rows:List (Str×Sg)} {ve:Value} {G:Fz} {s:Shared} (h:Rd w x dx fs rows ve G s):∀ K∈[entK w rows ve],K.ow=[]∧K.p .none G s.heap∧∀ a∈K.fp,s.heap.get? a≠none:=fun K hK=>by
 rw [List.mem_singleton.mp hK];exact ⟨rfl,h.rep,fun _ h=>nomatch h⟩
theorem evv_self {x dx:Addr} {fs:List (Str×Value)} {pos:Pos} (h:(some ("self" : Str),(inst w.params x dx 257 fs).ro)∈ρ) (hk:env.scope.kind=.function):EvV w env n N ρ (.Name "self" pos) (.ref x):=
 (evk_name h hk).mono fun _ v _ _ _ hv=>hv.1
theorem handed_rep {G:Fz} {v:Value} {l:List (Str×D)} (r:Rep w.params G v (.dct l)):handedIn v=true:=by obtain ⟨_,_,_,rfl,_⟩:=r.inv;rfl
theorem ev_ent {x dx:Addr} {fs:List (Str×Value)} {rows:List (Str×Sg)} {ve:Value} {p1 p2:Pos} (h:(some ("self" : Str),(inst w.params x dx 257 fs).ro)∈ρ) (hf:(none,entK w rows ve)∈ρ) (hk:env.scope.kind=.function) (hv:look fs "entries" = some ve) (hh:handedIn ve=true) :
  Ev w env n N ρ (.Attribute (.Name "self" p1) "entries" p2) (fun d=>d=.dct (entL rows)):=
 ev_fact (v:=ve) (evk_attr (evv_self h hk) h rfl hv (by rfl) (by rfl) (by rfl) hh rfl) hf
theorem ev_col {x dx:Addr} {fs:List (Str×Value)} {rows:List (Str×Sg)} {ve:Value} {p1 p2 p3 p4 p5:Pos} {e:PySem.Expr} {kk} {y:Str} {t:Sg} {k:Nat} {d:D} (h:(some ("self" : Str),(inst w.params x dx 257 fs).ro)∈ρ) (hf:(none,entK w rows ve)∈ρ) (hk:env.scope.kind=.function) (hv:look fs "entries" = some ve) (hh:handedIn ve=true)
  (he:Ev w env n N ρ e (fun d=>d=.str y)) (ht:look rows y=some t) (hns:∀ a b c,e≠.Slice a b none c) (l:List D) (hl:encS t=.tup l) (hb:l.length≤1000) (hd:l[k]? = some d) :
  Ev w env n N ρ (.Subscript (.Subscript (.Attribute (.Name "self" p1) "entries" p2) e p3) (.Constant (.int (k:Int)) kk p4) p5) (fun x=>x=d):=
 pu_tup (ev_sub_dct (P:=fun x=>x=.tup l) (ev_ent h hf hk hv hh) he (by
  rintro _ _ rfl rfl
  exact ⟨_,_,_,rfl,rfl,entL_look ht,hl⟩) hns) (by exact q1 ‹_›) hd
set_option maxHeartbeats 1000000 in
theorem c_parent {x dx:Addr} {fs:List (Str×Value)} {rows:List (Str×Sg)} {ve:Value} {G:Fz} {s:Shared} {vs:List Value} (R:Rd w x dx fs rows ve G s) {y:Str} {t:Sg} (ht:look rows y=some t) (i:Inn G s.heap) (b:Bs w G) (r:RepL w.params G vs [.str y]) :
  Op w (n+1) [] G s (call (.ref 177) (.ref x::vs)) (KD w (fun d=>d=.str t.parent)):=by
 refine op_met ff_parent ["name"] [entK w rows ve] (bindS1 fun _ _=>rfl) (by decide) (by decide +kernel) i b R.inst R.facts r rfl ?_
 rintro env A s₁ Q E rfl a c k
 exact st_ret a noN c (ev_col (k:=5) (.head _) mh1 rfl R.att (handed_rep R.rep) (ev_name mh2 rfl) ht (fun _ _ _ h=>nomatch h) _ rfl (by simp) rfl) fun v G' s' y z q=>k _ _ _ z.step q
end Mine
end
section
namespace Mine
variable {w:World} {env:Env} {n:Nat} {N:List Addr} {ρ:Rho}
theorem evk_type1 {x:Str} {np pos:Pos} {e:PySem.Expr} {id:String} {K1:Value→Fz→Shared→Prop} {K:Shared→Value→Fz→Shared→Prop}
  (hf:EvV w env n N ρ (.Name x np) (.type id)) (ha:EvK w env n N ρ e (fun _=>K1)) (ht:backTo pos (starEach [e] env)=[(false,eval e env)])
  (he:∀ s0 s v G' s',K s v G' s'→(∀ a,s0.heap.get? a≠none→s.heap.get? a≠none)→K s0 v G' s')
  (hop:∀ G s v,Inn G s.heap→Bs w G→K1 v G s→Op w n [] G s (call (.type id) [v]) (K s)):EvK w env n N ρ (.Call (.Name x np) [e] [] pos) K:=fun A G₀ s₀ M G s Q E a b c k=>by
 refine wpAny_Call_ofName (hf A G₀ s₀ M G s _ E a b c fun v G1 s1 y1 z1 e=>?_)
 subst e
 rw [ht]
 refine PySem.callWith_type1 (ha A G₀ s₀ M G1 s1 _ E a b z1 fun v G2 s2 y2 z2 q2=>?_)
 have y:=y1.trans y2 fun q hq=>.inl hq
 exact hop G2 s2 v z2.step.inn z2.HFG q2 A _ _ a fun v G3 s3 y3 q=>k v G3 s3 (y.trans y3 fun _ h=>nomatch h) (z2.pure y3) (he _ _ _ _ _ q y.dom)
theorem ev_tuple_tup {x:Str} {np pos:Pos} {e:PySem.Expr} {P1 P:D→Prop} (hf:EvV w env n N ρ (.Name x np) (.type "tuple")) (ha:Ev w env n N ρ e P1) (h:∀ d,P1 d→E1 .tup d fun l=>P d) (ht:backTo pos (starEach [e] env)=[(false,eval e env)]:=by rfl):Ev w env n N ρ (.Call (.Name x np) [e] [] pos) P:=
 evk_type1 hf ha ht (fun _ _ _ _ _ x _=>x) fun G s v i _ ⟨d,r,p⟩=>by
  obtain ⟨l,rfl,hp⟩:=h d p
  replace r:=r.inv;obtain ⟨a,vs,m,rfl,hg,r⟩:=r
  exact .val i ⟨_,.tup hg r,hp⟩ fun A Q E _ q=>PyProof.Rows.call_tuple_tup ⟨_,i _ _ hg,rfl,m,rfl⟩ q
theorem ev_tuple_lst {x:Str} {np pos:Pos} {e:PySem.Expr} {P1:List D→Prop} {P:D→Prop} (hf:EvV w env n N ρ (.Name x np) (.type "tuple")) (ha:EvS w env n N ρ e P1) (h:∀ l,P1 l→l.length≤1000000∧P (.tup l)) (ht:backTo pos (starEach [e] env)=[(false,eval e env)]:=by rfl):Ev w env n N ρ (.Call (.Name x np) [e] [] pos) P:=
 evk_type1 hf ha ht (fun _ _ _ _ _ x _=>x) fun G s v i _ ⟨a,vs,m,l,e1,hg,r,p⟩=>by
  obtain ⟨hb,hp⟩:=h l p
  subst e1
  have hlen:=r.arr
  refine fun A Q E _ k=>PySem.call_tuple_list ⟨_,hg,rfl,m,rfl⟩ (fun h' hk=>?_) (by rw [sizeLine_eq];exact qk ‹_› ‹_›)
  have y1:Step G s [] G {s with heap:=h'}:=Step.of_keeps i ⟨h',s.toks,rfl,hk⟩
  have y2:Step G s [] G {s with heap:=h'.push (tupO vs 0)}:=y1.trans (Step.push (N:=[]) y1.inn (tupO vs 0) s.toks) fun _ h=>nomatch h
  have hn:s.heap.get? h'.objs.size=none:=Classical.byContradiction fun q=>y1.dom _ q (fresh_size _)
  have ho:({s with heap:=h'.push (tupO vs 0)}:Shared).heap.get? h'.objs.size=some (tupO vs 0):=Heap.get?_push_size _ rfl
  exact k _ _ _ (y2.freeze hn ho) ⟨_,.tup Fz.put_self (r.mono (y2.le_put ho)),hp⟩
theorem ev_str_int {x:Str} {np pos:Pos} {e:PySem.Expr} {P1 P:D→Prop} (hf:EvV w env n N ρ (.Name x np) (.type "str")) (ha:Ev w env n N ρ e P1) (h:∀ d,P1 d→E1 .int d fun i=>i.natAbs < 1000000∧P (.str (toString i))) (ht:backTo pos (starEach [e] env)=[(false,eval e env)]:=by rfl):Ev w env n N ρ (.Call (.Name x np) [e] [] pos) P:=
 evk_type1 hf ha ht (fun _ _ _ _ _ x _=>x) fun G s v i _ ⟨d,r,p⟩=>by
  obtain ⟨j,rfl,hb,hp⟩:=h d p
  obtain ⟨_,rfl⟩:=r.inv
  have hl:j.natAbs.log2 < 1920:=by
   by_cases q:j.natAbs=0
   ·rw [q];decide
   ·have:=(Nat.log2_lt (k:=20) q).mpr (Nat.lt_trans hb (by decide))
    exact q1 ‹_›
  exact .tok i (.str _ s.toks) hp _ fun A Q E _ q=>PySem.P.str_of_int hl q
theorem ev_int_bool {x:Str} {np pos:Pos} {e:PySem.Expr} {P1 P:D→Prop} (hf:EvV w env n N ρ (.Name x np) (.type "int")) (ha:Ev w env n N ρ e P1) (h:∀ d,P1 d→E1 .bool d fun b=>P (.int (if b then 1 else 0))) (ht:backTo pos (starEach [e] env)=[(false,eval e env)]:=by rfl):Ev w env n N ρ (.Call (.Name x np) [e] [] pos) P:=
 evk_type1 hf ha ht (fun _ _ _ _ _ x _=>x) fun G s v i _ ⟨d,r,p⟩=>by
  obtain ⟨j,rfl,hp⟩:=h d p
  obtain ⟨_,rfl⟩:=r.inv
  exact .tok i (.int _ s.toks) hp _ fun A Q E _ q=>PySem.call_int_bool q
theorem ev_abs {x:Str} {np pos:Pos} {e:PySem.Expr} {P1 P:D→Prop} (hf:EvV w env n N ρ (.Name x np) (.builtin "abs")) (ha:Ev w env n N ρ e P1) (h:∀ d,P1 d→E1 .int d fun i=>P (.int (if i < 0 then -i else i))) (ht:backTo pos (starEach [e] env)=[(false,eval e env)]:=by rfl):Ev w env n N ρ (.Call (.Name x np) [e] [] pos) P:=
 evk_blt1 hf ha ht (fun _ _ _ _ _ x _=>x) fun G s v i _ ⟨d,r,p⟩=>by
  obtain ⟨j,rfl,hp⟩:=h d p
  obtain ⟨_,rfl⟩:=r.inv
  exact fun A Q E _ k=>PyProof.Rows.call_abs_int fun u tk=>k _ G _ (Step.tk i tk) ⟨_,.int _ u,hp⟩
theorem evl_sorted {x:Str} {np pos:Pos} {e:PySem.Expr} {K1:Value→Fz→Shared→Prop} {P:List D→Prop} (hf:EvV w env n N ρ (.Name x np) (.builtin "sorted")) (ha:EvK w env n N ρ e (fun _=>K1))
  (h:∀ v G s,Inn G s.heap→K1 v G s→∃ a vs m ss,v=.ref a∧s.heap.get? a=some (lstO vs m)∧RepL w.params G vs.toList (ss.map .str)∧ss.length < 64∧∀ ss':List Str,ss'.Perm ss→sortedS ss'=true→P (ss'.map .str)) (ht:backTo pos (starEach [e] env)=[(false,eval e env)]:=by rfl):EvL w env n N ρ (.Call (.Name x np) [e] [] pos) P:=
 evk_blt1 hf ha ht (fun _ _ _ _ _ x h=>x.early h) fun G s v i _ q=>by
  obtain ⟨a,vs,m,ss,rfl,hg,r,hb,hp⟩:=h v G s i q
  have hlen:=r.length
  rw [List.length_map] at hlen
  refine fun A Q E _ k=>PyProof.Rows.sorted_strs (vs:=vs.toList) (by rw [Array.toArray_toList];exact ⟨_,hg,rfl,m,rfl⟩) r.strs (by omega) fun out ss' h1 h2 h3=>?_
  obtain ⟨e,he⟩:=sortedAll_at s.heap vs.toList out
  have y:Step G s [] G {s with heap:=sortedAll s.heap vs.toList out}:=Step.of_keeps i ⟨_,s.toks,rfl,fun b o hb=>sortedAll_old hb⟩
  have hn:s.heap.get? (s.heap.objs.size+1)=none:=Heap.get?_none_of_le (Nat.le_succ _)
  refine k _ G _ y ⟨_,out,e,_,rfl,hn,?_,he,?_,hp ss' h2 h3⟩
  ·cases q:G (s.heap.objs.size+1) with
   | none=>rfl
   | some o=>have:=i _ _ q;rw [hn] at this;cases this
  ·have:∀ {vs:List Value} {ss:List Str},StrsAre vs ss→RepL w.params G vs (ss.map .str):=fun h=>by
    induction h with
    | nil=>exact .nil
    | cons y t _ ih=>exact .cons (.str y t) ih
   exact this h1
theorem ev_add_tup {l r pos} {P1 P2 P:D→Prop} (hl:Ev w env n N ρ l P1) (hr:Ev w env n N ρ r P2) (h:∀ d1 d2,P1 d1→P2 d2→E2 .tup .tup d1 d2 fun a b=>a.length+b.length≤1000000∧P (.tup (a++b))):Ev w env n N ρ (.BinOp l .Add r pos) P:=
 ev_bin hl hr fun G s v1 v2 d1 d2 i _ p1 p2 r1 r2=>by
  obtain ⟨a,b,rfl,rfl,hb,hp⟩:=h _ _ p1 p2
  replace r1:=r1.inv;obtain ⟨a1,vs1,m1,rfl,hg1,r1⟩:=r1
  ·
   replace r2:=r2.inv;obtain ⟨a2,vs2,m2,rfl,hg2,r2⟩:=r2
   ·
    have l1:=r1.arr
    have l2:=r2.arr
    have o1:=i _ _ hg1
    have o2:=i _ _ hg2
    by_cases e1:vs1.isEmpty=true
    ·have:a=[]:=by
      have:vs1.size=0:=by simpa using e1
      exact List.length_eq_zero_iff.mp (by omega)
     subst this
     exact .val i ⟨_,.tup hg2 r2,by simpa using hp⟩ fun A Q E _ q=>concat_meets ⟨_,o1,rfl⟩ ⟨_,o2,rfl⟩ noFill_tuple_add seq_tuple_add PySem.F.slot_tuple_add PySem.F.entry_tuple_add (PySem.F.args_tuple_add_2 _ _) (PySem.AutoSeq1.tuple___add___tuple_tuple_0 a1 vs1 m1 a2 vs2 m2 e1) ⟨o1,o2,q⟩
    ·by_cases e2:vs2.isEmpty=true
     ·have:b=[]:=by
       have:vs2.size=0:=by simpa using e2
       exact List.length_eq_zero_iff.mp (by omega)
      subst this
      exact .val i ⟨_,.tup hg1 r1,by simpa using hp⟩ fun A Q E _ q=>concat_meets ⟨_,o1,rfl⟩ ⟨_,o2,rfl⟩ noFill_tuple_add seq_tuple_add PySem.F.slot_tuple_add PySem.F.entry_tuple_add (PySem.F.args_tuple_add_2 _ _) (PySem.AutoSeq1.tuple___add___tuple_tuple_1 a1 vs1 m1 a2 vs2 m2 e1 e2) ⟨o1,o2,q⟩
     ·refine fun A Q E _ k=>PySem.P.add_tuple (n:=m1) (n2:=m2) o1 o2 e1 e2 ?_ (by rw [sizeLine_eq];omega)
      have y2:=Step.push (N:=[]) i (tupO (vs1++vs2) 0) s.toks
      have ho:({s with heap:=s.heap.push (tupO (vs1++vs2) 0)}:Shared).heap.get? s.heap.objs.size=some (tupO (vs1++vs2) 0):=Heap.get?_push_size _ rfl
      exact k _ _ _ (y2.freeze (fresh_size _) ho) ⟨_,.tup Fz.put_self (by simpa using (r1.append r2).mono (y2.le_put ho)),hp⟩
end Mine
end
section
namespace Mine
variable {w:World} {env:Env} {n:Nat} {N:List Addr} {ρ:Rho}
structure Own (w:World) (env:Env) (n:Nat) (ρ:Rho) (o:PySem.Expr) (x dx:Addr) (fs:List (Str×Value)) (rows:List (Str×Sg)) (ve:Value):Prop where
 at_:∃ q∈ρ,q.2.p=(inst w.params x dx 257 fs).p
 ho:EvV w env n [] ρ o (.ref x)
 fact:(none,entK w rows ve)∈ρ
 att:look fs "entries" = some ve
 no:∀ y,look fs y≠none→y∈attrs
 hh:handedIn ve=true
variable {x dx:Addr} {fs:List (Str×Value)} {rows:List (Str×Sg)} {ve:Value} {o:PySem.Expr}
theorem Own.rd (O:Own w env n ρ o x dx fs rows ve) {G:Fz} {s:Shared} (hh:∀ q∈ρ,Holds env G s.heap q):Rd w x dx fs rows ve G s where
 inst:=by
  obtain ⟨⟨y,K⟩,hq,hp⟩:=O.at_
  have:=hh _ hq
  have hp:K.p=_:=hp
  cases y with
  | none=>
   have h2:(Mine.inst w.params x dx 257 fs).p .none G s.heap:=by rw [← hp];exact this
   exact ⟨rfl,h2.2⟩
  | some y=>
   obtain ⟨u,_,h⟩:=this
   have h2:(Mine.inst w.params x dx 257 fs).p u G s.heap:=by rw [← hp];exact h
   exact ⟨rfl,h2.2⟩
 att:=O.att
 rep:=hh _ O.fact
 no:=O.no
theorem Own.self {ds:List D} {xs:List Str} (hk:env.scope.kind=.function) (R:Rd w x dx fs rows ve G s) {ρ':Rho} {pos:Pos} {F:List Kd} (hF:entK w rows ve∈F):Own w env n (selfR w x dx fs F++ρ') (.Name "self" pos) x dx fs rows ve:=
 ⟨⟨_,.head _,rfl⟩,evv_self (.head _) hk,List.mem_append.mpr (.inl (.tail _ (List.mem_map.mpr ⟨_,hF,rfl⟩))),R.att,R.no,handed_rep R.rep⟩
theorem evk_self {nm:Str} {apos pos:Pos} {args:List PySem.Expr} {fa:Addr} {fd:FuncData} {body:List Stmt} {PA:List D→Prop} {K:Shared→Value→Fz→Shared→Prop} {ts:List (Bool×Sem Value)} (ff:FnFacts w fa fd body) (O:Own w env n ρ o x dx fs rows ve)
  (ha:Trs w env n [] ρ ts PA) (he:∀ s0 s v G' s',K s v G' s'→(∀ a,s0.heap.get? a≠none→s.heap.get? a≠none)→K s0 v G' s')
  (hop:∀ G s vs ds,Rd w x dx fs rows ve G s→Inn G s.heap→Bs w G→(∀ q∈ρ,Holds env G s.heap q)→RepL w.params G vs ds→PA ds→Op w n [] G s (call (.ref fa) (.ref x::vs)) (K s))
  (hnm:nm∉attrs) (hf:findIn (KK w.params) (.ref 257) nm=some (some (.ref fa))) (ht:backTo pos (starEach args env)=ts) (hts:(ts=[]∧PA [])∨∃ e r,ts=(false,e)::r)
  (hfn:isFn (KK w.params) (.ref fa)=true) (hg:plainGet (KK w.params) 257 nm=true)
  (hbase:attributeBase o nm env (eval o env)=eval o env:=by rfl) (hline:(apos.endLine==pos.line)=true:=by rfl) (hform:methodCallForm (args.length+([]:List Keyword).length) ts (backToKw pos (keywordEach [] env))=true:=by rfl) :
  EvK w env n [] ρ (.Call (.Attribute o nm apos) args [] pos) K:=by
 obtain ⟨q,hq,hp⟩:=O.at_
 exact evk_meth (q:=q) ff O.ho ⟨hq,hp,Classical.byContradiction fun h=>hnm (O.no _ h)⟩ ha ht hts hg hf hfn he (fun G s vs ds i b hh r p=>hop G s vs ds (O.rd hh) i b hh r p) hbase hline hform
theorem ev_parent {e:PySem.Expr} {apos pos:Pos} {y:Str} {t:Sg} (O:Own w env (n+1) ρ o x dx fs rows ve) (he:Ev w env (n+1) [] ρ e (fun d=>d=.str y)) (ht:look rows y=some t) (hs:backTo pos (starEach [e] env)=[(false,eval e env)]:=by rfl)
  (hbase:attributeBase o "parent" env (eval o env)=eval o env:=by rfl) (hline:(apos.endLine==pos.line)=true:=by rfl):Ev w env (n+1) [] ρ (.Call (.Attribute o "parent" apos) [e] [] pos) (fun d=>d=.str t.parent):=
 evk_self (PA:=fun l=>l=[.str y]) ff_parent O (trs1 he (fun _ h=>by rw [h])) (fun _ _ _ _ _ x _=>x) (fun G s vs ds R i b _ r p=>by subst p;exact c_parent R ht i b r) (by decide) (by rfl) hs (.inr ⟨_,_,rfl⟩) (by rfl) (by rfl) hbase hline
set_option maxHeartbeats 1000000 in
theorem c_spot {G:Fz} {s:Shared} {vs:List Value} (R:Rd w x dx fs rows ve G s) {y:Str} {t:Sg} (ht:look rows y=some t) (i:Inn G s.heap) (b:Bs w G) (r:RepL w.params G vs [.str y]) :
  Op w (n+1) [] G s (call (.ref 170) (.ref x::vs)) (KD w (fun d=>d=.int t.spot)):=by
 refine op_met ff_spot ["name"] [entK w rows ve] (bindS1 fun _ _=>rfl) (by decide) (by decide +kernel) i b R.inst R.facts r rfl ?_
 rintro env A s₁ Q E rfl a c k
 exact st_ret a noN c (ev_col (k:=1) (.head _) mh1 rfl R.att (handed_rep R.rep) (ev_name mh2 rfl) ht (fun _ _ _ h=>nomatch h) _ rfl (by simp) rfl) fun v G' s' y z q=>k _ _ _ z.step q
theorem ev_spot {e:PySem.Expr} {apos pos:Pos} {y:Str} {t:Sg} (O:Own w env (n+1) ρ o x dx fs rows ve) (he:Ev w env (n+1) [] ρ e (fun d=>d=.str y)) (ht:look rows y=some t) (hs:backTo pos (starEach [e] env)=[(false,eval e env)]:=by rfl)
  (hbase:attributeBase o "spot" env (eval o env)=eval o env:=by rfl) (hline:(apos.endLine==pos.line)=true:=by rfl):Ev w env (n+1) [] ρ (.Call (.Attribute o "spot" apos) [e] [] pos) (fun d=>d=.int t.spot):=
 evk_self (PA:=fun l=>l=[.str y]) ff_spot O (trs1 he (fun _ h=>by rw [h])) (fun _ _ _ _ _ x _=>x) (fun G s vs ds R i b _ r p=>by subst p;exact c_spot R ht i b r) (by decide) (by rfl) hs (.inr ⟨_,_,rfl⟩) (by rfl) (by rfl) hbase hline
set_option maxHeartbeats 1000000 in
theorem c_supers {G:Fz} {s:Shared} {vs:List Value} (R:Rd w x dx fs rows ve G s) {y:Str} {t:Sg} (ht:look rows y=some t) (i:Inn G s.heap) (b:Bs w G) (r:RepL w.params G vs [.str y]) :
  Op w (n+1) [] G s (call (.ref 184) (.ref x::vs)) (KD w (fun d=>d=.tup (t.sups.map .str))):=by
 refine op_met ff_supers ["name"] [entK w rows ve] (bindS1 fun _ _=>rfl) (by decide) (by decide +kernel) i b R.inst R.facts r rfl ?_
 rintro env A s₁ Q E rfl a c k
 exact st_ret a noN c (ev_tuple_tup (evv_blt rfl rfl rfl rfl rfl rfl) (ev_col (k:=6) (d:=.tup (t.sups.map .str)) (.head _) mh1 rfl R.att (handed_rep R.rep) (ev_name mh2 rfl) ht (fun _ _ _ h=>nomatch h) _ rfl (by simp) rfl) (fun d h=>⟨_,h,h⟩)) fun v G' s' y z q=>k _ _ _ z.step q
theorem ev_supers {e:PySem.Expr} {apos pos:Pos} {y:Str} {t:Sg} (O:Own w env (n+1) ρ o x dx fs rows ve) (he:Ev w env (n+1) [] ρ e (fun d=>d=.str y)) (ht:look rows y=some t) (hs:backTo pos (starEach [e] env)=[(false,eval e env)]:=by rfl)
  (hbase:attributeBase o "supers" env (eval o env)=eval o env:=by rfl) (hline:(apos.endLine==pos.line)=true:=by rfl):Ev w env (n+1) [] ρ (.Call (.Attribute o "supers" apos) [e] [] pos) (fun d=>d=.tup (t.sups.map .str)):=
 evk_self (PA:=fun l=>l=[.str y]) ff_supers O (trs1 he (fun _ h=>by rw [h])) (fun _ _ _ _ _ x _=>x) (fun G s vs ds R i b _ r p=>by subst p;exact c_supers R ht i b r) (by decide) (by rfl) hs (.inr ⟨_,_,rfl⟩) (by rfl) (by rfl) hbase hline
theorem ev_gt {l r pos} {P1 P2:D→Prop} {P:Bool→Prop} (hl:Ev w env n N ρ l P1) (hr:Ev w env n N ρ r P2) (h:∀ d1 d2,P1 d1→P2 d2→E2 .int .int d1 d2 fun x y=>P (decide (x > y))):Ev w env n N ρ (.Compare l [.Gt] [r] pos) (fun d=>∃ b,d=.bool b∧P b):=
 ev_cmp (hm:=bim_of (by decide) (by decide)) hl hr KD.step fun G s v1 v2 i _ ⟨d1,r1,p1⟩ ⟨d2,r2,p2⟩=>by
  obtain ⟨x,y,rfl,rfl,hp⟩:=h _ _ p1 p2
  obtain ⟨_,rfl⟩:=r1.inv;obtain ⟨_,rfl⟩:=r2.inv
  exact .cmp i hp fun A Q E _ q=>PyProof.Rows.gt_int q
set_option maxHeartbeats 1000000 in
theorem c_subset {G:Fz} {s:Shared} {vs:List Value} (R:Rd w x dx fs rows ve G s) {y:Str} {t:Sg} (ht:look rows y=some t) (hb:t.sups.length≤1000) (i:Inn G s.heap) (b:Bs w G) (r:RepL w.params G vs [.str y]) :
  Op w (n+1) [] G s (call (.ref 191) (.ref x::vs)) (KD w (fun d=>∃ b,d=.bool b∧b = !t.sups.isEmpty)):=by
 refine op_met ff_subset ["name"] [entK w rows ve] (bindS1 fun _ _=>rfl) (by decide) (by decide +kernel) i b R.inst R.facts r rfl ?_
 rintro env A s₁ Q E rfl a c k
 exact st_ret a noN c (ev_gt (P1:=fun d=>d=.int t.sups.length) (P2:=fun d=>d=.int 0) (ev_len_tup (evv_blt rfl rfl rfl rfl rfl rfl) (ev_col (k:=6) (d:=.tup (t.sups.map .str)) (.head _) mh1 rfl R.att (handed_rep R.rep) (ev_name mh2 rfl) ht (fun _ _ _ h=>nomatch h) _ rfl (by simp) rfl) rfl
  (fun d h=>⟨_,h,by simp;exact q1 ‹_›,by simp⟩)) ev_int (by
   rintro _ _ rfl rfl
   refine ⟨_,_,rfl,rfl,?_⟩
   cases t.sups<;>simp)) fun v G' s' y z q=>k _ _ _ z.step q
theorem ev_subset {e:PySem.Expr} {apos pos:Pos} {y:Str} {t:Sg} (O:Own w env (n+1) ρ o x dx fs rows ve) (he:Ev w env (n+1) [] ρ e (fun d=>d=.str y)) (ht:look rows y=some t) (hb:t.sups.length≤1000) (hs:backTo pos (starEach [e] env)=[(false,eval e env)]:=by rfl)
  (hbase:attributeBase o "is_subset" env (eval o env)=eval o env:=by rfl) (hline:(apos.endLine==pos.line)=true:=by rfl):Ev w env (n+1) [] ρ (.Call (.Attribute o "is_subset" apos) [e] [] pos) (fun d=>∃ b,d=.bool b∧b = !t.sups.isEmpty):=
 evk_self (PA:=fun l=>l=[.str y]) ff_subset O (trs1 he (fun _ h=>by rw [h])) (fun _ _ _ _ _ x _=>x) (fun G s vs ds R i b _ r p=>by subst p;exact c_subset R ht hb i b r) (by decide) (by rfl) hs (.inr ⟨_,_,rfl⟩) (by rfl) (by rfl) hbase hline
theorem ev_tupEq {elts:List PySem.Expr} {k pos} {l:List D} {ts:List (Bool×Sem Value)} (h:Trs w env n N ρ ts (fun l'=>l'=l)) (ht:backTo pos (starEach elts env)=ts:=by rfl) (hsz:ts.length≤100:=by simp) :
  Ev w env n N ρ (.Tuple elts k pos) (fun d=>d=.tup l):=(ev_tuple h ht hsz).mono fun _ v G s i ⟨d,r,l',e,p⟩=>⟨d,r,by rw [e,p]⟩
set_option maxHeartbeats 1000000 in
theorem c_mdirect {G:Fz} {s:Shared} {vs:List Value} (R:Rd w x dx fs rows ve G s) {y:Str} {t:Sg} (ht:look rows y=some t) (hb:t.sups.length≤1000) (i:Inn G s.heap) (b:Bs w G) (r:RepL w.params G vs [.str y]) :
  Op w (n+2) [] G s (call (.ref 125) (.ref x::vs)) (KD w (fun d=>d=.tup (t.up.map .str))):=by
 refine op_met ff_mdirect ["name"] [entK w rows ve] (bindS1 fun _ _=>rfl) (by decide) (by decide +kernel) i b R.inst R.facts r rfl ?_
 rintro env A s₁ Q E rfl a c k
 have O:∀ {pos},Own w (callEnvC (metFd 3 "direct" 124) s.heap.objs.size 125) (n+1) (selfR w x dx fs [entK w rows ve]++rhoOf w.params ["name"] [.str y]) (.Name "self" pos) x dx fs rows ve:=Own.self (ds:=[]) (xs:=[]) rfl R (.head _)
 have hn:∀ {pos},Ev w (callEnvC (metFd 3 "direct" 124) s.heap.objs.size 125) (n+1) [] (selfR w x dx fs [entK w rows ve]++rhoOf w.params ["name"] [.str y]) (.Name "name" pos) (fun d=>d=.str y):=ev_name mh2 rfl
 refine st_ret a noN c (K:=fun _=>KD w (fun d=>d=.tup (t.up.map .str))) ?_ fun v G' s' y z q=>k _ _ _ z.step q
 refine ev_add_tup (P1:=fun d=>d=.tup ((if t.parent = "" then [] else [t.parent]).map .str)) (P2:=fun d=>d=.tup (t.sups.map .str)) ?_ (ev_supers O hn ht) ?_
 ·refine ev_if (P1:=fun b=>b=(t.parent != "")) (tr_ne_str (ev_parent O hn ht) ev_str (by exact fun _ _ a b=>⟨_,_,a,b,rfl⟩)) (fun h=>?_) (fun h=>?_)
  ·have h2:¬ t.parent = "":=by simpa using h.symm
   rw [if_neg h2]
   refine ev_tupEq (ht:=rfl) (hsz:=Nat.le_of_ble_eq_true rfl) ?_
   refine trs1 (P1:=fun d=>d=.str t.parent) ?_ (by rintro _ rfl;rfl)
   exact ev_parent O hn ht
  ·have h2:t.parent = "":=by simpa using h.symm
   rw [if_pos h2]
   exact ev_tupEq (trs_nil rfl)
 ·rintro _ _ rfl rfl
  refine ⟨_,_,rfl,rfl,?_,?_⟩
  ·simp;split<;>simp<;>omega
  ·unfold Sg.up;simp
theorem ev_mdirect {e:PySem.Expr} {apos pos:Pos} {y:Str} {t:Sg} (O:Own w env (n+2) ρ o x dx fs rows ve) (he:Ev w env (n+2) [] ρ e (fun d=>d=.str y)) (ht:look rows y=some t) (hb:t.sups.length≤1000) (hs:backTo pos (starEach [e] env)=[(false,eval e env)]:=by rfl)
  (hbase:attributeBase o "direct" env (eval o env)=eval o env:=by rfl) (hline:(apos.endLine==pos.line)=true:=by rfl):Ev w env (n+2) [] ρ (.Call (.Attribute o "direct" apos) [e] [] pos) (fun d=>d=.tup (t.up.map .str)):=
 evk_self (PA:=fun l=>l=[.str y]) ff_mdirect O (trs1 he (fun _ h=>by rw [h])) (fun _ _ _ _ _ x _=>x) (fun G s vs ds R i b _ r p=>by subst p;exact c_mdirect R ht hb i b r) (by decide) (by rfl) hs (.inr ⟨_,_,rfl⟩) (by rfl) (by rfl) hbase hline
end Mine
end
section
namespace Mine
variable {w:World} {env:Env} {n:Nat} {N:List Addr} {ρ:Rho}
variable {x dx:Addr} {fs:List (Str×Value)} {rows:List (Str×Sg)} {ve:Value} {o:PySem.Expr}
theorem st_extT {o e:PySem.Expr} {apos cpos pos:Pos} {rest:List Stmt} {nm:Option Str} {l:Addr} {ds:List D} {K:Kd} {Ks:List D→Kd} {ρs:List D→Rho} {P:List D→Prop} {A:Around} {G₀ G:Fz} {s₀ s:Shared} {M:List Addr} {Q:Flow→Shared→Prop} {E:Value→Shared→Prop} (a:AOK n A) (c:St w env G₀ s₀ M ρ G s)
  (ho:EvV w env n [] ρ o (.ref l)) (sw:∀ d,Swap (nm,K) (nm,Ks d) ρ (ρs d)) (lk:∀ d,LK w l ds (ds++d) K (Ks d)) (he:Ev w env n [] ρ e (fun d=>∃ l,d=.tup l∧P l)) (hlen:∀ d,P d→ds.length+d.length≤1000000)
  (k:∀ d G' s',P d→St w env G₀ s₀ M (ρs d) G' s'→wpAny (model pw w) A (execs rest env) Q E s')
  (hbase:attributeBase o "extend" env (eval o env)=eval o env:=by rfl) (hline:(apos.endLine==cpos.line)=true:=by rfl) (ht:backTo cpos (starEach [e] env)=[(false,eval e env)]:=by rfl) (hi:interactive env=false:=by rfl) :
  wpAny (model pw w) A (execs (.Expr (.Call (.Attribute o "extend" apos) [e] [] cpos) pos::rest) env) Q E s:=
 wpAny_execs_cons (wpAny_Expr_any (hi:=hi) (meth1 PySem.F.slot_list_extend PySem.F.type_list_extend hbase hline ht (ho A G₀ s₀ M G s _ E a noN c fun v G1 s1 y1 c1 e1=>by
  obtain ⟨vs,m,hg,_⟩:=c1.read (sw []).mem (lk [])
  refine ⟨e1,⟨vs,m,hg⟩,seqMethod1_meets PySem.F.slot_list_extend PySem.F.entry_list_extend (he A G₀ s₀ M G1 s1 _ E a noN c1 fun v G2 s2 y2 c2 ⟨dd,rd,d,e2,pd⟩=>?_)⟩
  subst e2
  obtain ⟨b,vs2,m2,rfl,hg2,r2⟩:=rd.inv
  ·
   obtain ⟨vs,m,hg,r⟩:=c2.read (sw d).mem (lk d)
   have hl:=r.arr
   have hl2:=r2.arr
   have hd:=hlen d pd
   have hz:sizeLine=16777216:=by rw [sizeLine_eq]
   refine ⟨⟨_,hg,rfl⟩,PySem.F.args_list_extend_2 _ _,_,PySem.AutoSeq1.list_extend_list_tuple_0 l vs m b vs2 m2 ?_ (by omega) (by omega),hg,c2.step.inn _ _ hg2,k d G2 _ pd (c2.lst (sw d) (lk d) hg (fun xs=>xs++vs2) (by simpa using r.append r2))⟩
   simp only [Builtin.List.listTooLong,Bool.and_eq_true,decide_eq_true_eq,not_and]
   intro _
   omega)))
noncomputable def upOf (rows:List (Str×Sg)) (y:Str):List Str:=match look rows y with | some t=>t.up | none=>[]
inductive AbR (up:Str→List Str):List Str→List Str→List Str→Prop
 | done {f}:AbR up f [] f
 | old {f o ws r}:o∈f→AbR up f ws r→AbR up f (o::ws) r
 | new {f o ws r}:o∉f→AbR up (f++[o]) (ws++up o) r→AbR up f (o::ws) r
structure Clo (rows:List (Str×Sg)):Prop where
 ups:∀ y t,look rows y=some t→∀ z∈t.up,∃ t',look rows z=some t'
 oks:∀ y t,look rows y=some t→(∀ z∈t.up,PyData.strOk z=true)∧t.sups.length≤1000
 small:((rows.map fun p=>p.2.up.length+1).sum)≤10000
noncomputable def mu (rows:List (Str×Sg)) (f ws:List Str):Nat:=((rows.map fun p=>if p.1∈f then 0 else p.2.up.length+1).sum)+ws.length
theorem qo (a u v:Nat):a+(v+u)+2=a+(u+1)+(v+1):=by omega
theorem mu_new {rows:List (Str×Sg)} {f ws:List Str} {o:Str} {t:Sg} (h:look rows o=some t) (ho:o∉f):mu rows (f++[o]) (ws++t.up)+2≤mu rows f (o::ws):=by
 have m1:∀ p:Str×Sg,(if p.1∈f++[o] then 0 else p.2.up.length+1)≤(if p.1∈f then 0 else p.2.up.length+1):=fun p=>by
  by_cases q:p.1∈f
  ·rw [if_pos (List.mem_append_left _ q)];exact Nat.zero_le _
  ·rw [if_neg q];split
   ·exact Nat.zero_le _
   ·exact Nat.le_refl _
 have mono:∀ rows:List (Str×Sg),((rows.map fun p=>if p.1∈f++[o] then 0 else p.2.up.length+1).sum)≤((rows.map fun p=>if p.1∈f then 0 else p.2.up.length+1).sum):=by
  intro rows
  induction rows with
  | nil=>exact Nat.le_refl _
  | cons p rows ih=>rw [List.map_cons,List.map_cons,List.sum_cons,List.sum_cons];exact Nat.add_le_add (m1 p) ih
 have key:∀ rows:List (Str×Sg),look rows o=some t→((rows.map fun p=>if p.1∈f++[o] then 0 else p.2.up.length+1).sum)+(t.up.length+1)≤((rows.map fun p=>if p.1∈f then 0 else p.2.up.length+1).sum):=by
  intro rows
  induction rows with
  | nil=>intro h;cases h
  | cons p rows ih=>
   intro h
   unfold look at h
   rw [List.map_cons,List.map_cons,List.sum_cons,List.sum_cons]
   by_cases q:p.1=o
   ·simp [q] at h
    rw [if_pos (by rw [q];exact List.mem_append_right _ (.head _)),if_neg (by rw [q];exact ho),h,Nat.zero_add,Nat.add_comm]
    exact Nat.add_le_add_left (mono rows) _
   ·have:=ih (by unfold look;simpa [List.find?_cons,q] using h)
    rw [Nat.add_assoc]
    exact Nat.add_le_add (m1 p) this
 have:=Nat.add_le_add_right (key rows h) (ws.length+1)
 unfold mu
 rw [List.length_append,List.length_cons]
 exact Nat.le_trans (Nat.le_of_eq (qo _ _ _)) this
theorem mu_nil {rows:List (Str×Sg)} {ws:List Str}:mu rows [] ws=((rows.map fun p=>p.2.up.length+1).sum)+ws.length:=by unfold mu;simp
theorem evv_own {x:Str} {pos:Pos} {a:Addr} {ds:List D} (h:(some x,own w.params a ds)∈ρ) (hk:env.scope.kind=.function) (hd:(x==("__debug__" : Str))=false:=by decide) (hc:(x==("__classdict__" : Str))=false:=by decide) :
  EvV w env n N ρ (.Name x pos) (.ref a):=(evk_name h hk hd hc).mono fun _ v _ _ _ hv=>hv.1
theorem st_retO {x:Str} {px pos:Pos} {a1:Addr} {l:List D} {rest:List Stmt} {A:Around} {G₀ G:Fz} {s₀ s:Shared} {M:List Addr} {Q:Flow→Shared→Prop} {E:Value→Shared→Prop} (a:AOK n A) (c:St w env G₀ s₀ M ρ G s) (h:(some x,own w.params a1 l)∈ρ) (hM:a1∉M) (hk:env.scope.kind=.function)
  (k:∀ v G' s',St w env G₀ s₀ M ρ G' s'→KL w (fun l'=>l'=l) s₀ v G' s'→Q (.ret v) s') (hd:(x==("__debug__" : Str))=false:=by decide) (hc:(x==("__classdict__" : Str))=false:=by decide) :
  wpAny (model pw w) A (execs (.Return (some (.Name x px)) pos::rest) env) Q E s:=
 st_ret a noN c (evk_name h hk hd hc) fun v G' s' y z hv=>by
  obtain ⟨e,vs,m,hg,r⟩:=hv
  obtain ⟨_,h2,h3⟩:=z.ows _ h a1 (by show a1∈[a1];simp)
  exact k v G' s' z ⟨a1,vs,m,l,e,h3.resolve_left hM,h2,hg,r,rfl⟩
noncomputable def r0 (w:World) (x dx:Addr) (fs:List (Str×Value)) (rows:List (Str×Sg)) (ve:Value) (y:Str) (tl:Rho):Rho:=
 (some ("self" : Str),(inst w.params x dx 257 fs).ro)::(none,entK w rows ve)::(some ("name" : Str),dat w.params (.str y))::tl
noncomputable def tl2 (x1 x2:Str):List Kd→Rho
 | [k1,k2]=>[(some x2,k2),(some x1,k1)]
 | _=>[]
noncomputable def envAb (L:Addr):Env:=callEnvC (metFd 17 "all_above" 218) L 219
set_option maxHeartbeats 2000000 in
theorem c_mabove {G:Fz} {s:Shared} {vs:List Value} (R:Rd w x dx fs rows ve G s) (hc:Clo rows) {y:Str} {t:Sg} (ht:look rows y=some t) (i:Inn G s.heap) (b:Bs w G) (r:RepL w.params G vs [.str y]) :
  Op w (n+3) [] G s (call (.ref 219) (.ref x::vs)) (KL w (fun l=>∃ r,l=r.map .str∧AbR (upOf rows) [] t.up r) s):=by
 refine op_met ff_above ["name"] [entK w rows ve] (bindS1 fun _ _=>rfl) (by decide) (by decide +kernel) i b R.inst R.facts r rfl ?_
 rintro env A s₁ Q E he a c k
 change env=envAb _ at he
 generalize s.heap.objs.size=L at he
 subst he
 have O:∀ {ρ' pos},Own w (envAb L) (n+2) (selfR w x dx fs [entK w rows ve]++ρ') (.Name "self" pos) x dx fs rows ve:=fun {ρ' pos}=>Own.self (ds:=[]) (xs:=[]) rfl R (.head _)
 have hn:∀ {pos},Ev w (envAb L) (n+2) [] (selfR w x dx fs [entK w rows ve]++rhoOf w.params ["name"] [.str y]) (.Name "name" pos) (fun d=>d=.str y):=ev_name mh2 rfl
 have sm:t.up.length+1≤10000:=by
  have hs:=hc.small
  have:∀ rows:List (Str×Sg),look rows y=some t→t.up.length+1≤((rows.map fun p=>p.2.up.length+1).sum):=by
   intro rows
   induction rows with
   | nil=>intro h;cases h
   | cons p rows ih=>
    intro h
    unfold look at h
    simp only [List.map_cons,List.sum_cons]
    by_cases q:p.1=y
    ·simp [q] at h;rw [h];exact qa
    ·have:=ih (by unfold look;simpa [List.find?_cons,q] using h);omega
  have:=this rows ht
  exact q2 ‹_› ‹_›
 refine st_tupB (xs:=["found","waiting"]) (P:=fun Ks=>∃ a1 a2,Ks=[own w.params a1 [],own w.params a2 (t.up.map .str)]) (ρs:=fun Ks=>r0 w x dx fs rows ve y (tl2 "found" "waiting" Ks)) a c
  (trsO_cons (P1:=fun K=>∃ a l,K=own w.params a l∧l=[]) (EvL.o (evl_list (trs_nil rfl))) fun K v ⟨a1,l,e,e2⟩=>trsO_cons (P1:=fun K=>∃ a l,K=own w.params a l∧l=t.up.map .str) (EvO.under (EvL.o ?wt)) fun K2 v2 ⟨a2,l2,e3,e4⟩=>trsO_nil ⟨a1,a2,by rw [e,e2,e3,e4]⟩) rfl rfl (Nat.le_of_ble_eq_true rfl) rfl
  (.inr ⟨.bind (.inl rfl) (.bind (.inl rfl) .nil),rfl,?_⟩) ?_
 case wt=>exact evl_list_of (evv_blt rfl rfl rfl rfl rfl rfl) (ev_mdirect O hn ht (hc.oks _ _ ht).2) rfl (KD.tupK fun d h=>⟨_,h,by simp;exact q6 ‹_›,rfl⟩)
 ·rintro Ks ⟨a1,a2,rfl⟩
  exact .cons (.skip (by decide) (.skip (by decide) (.skip (by decide) .new))) (.cons (.skip (by decide) (.skip (by decide) (.skip (by decide) (.skip (by decide) .new)))) .nil)
 rintro Ks G1 s1 ⟨a1,a2,rfl⟩ c1
 let ρI:List Str×List Str→Rho:=fun z=>r0 w x dx fs rows ve y (tl2 "found" "waiting" [own w.params a1 (z.1.map .str),own w.params a2 (z.2.map .str)])
 refine st_while (N:=[]) (X:=List Str×List Str) a noN (fun z=>mu rows z.1 z.2) (fun z=>(∀ r,AbR (upOf rows) z.1 z.2 r→AbR (upOf rows) [] t.up r)∧(∀ u∈z.2,∃ t',look rows u=some t')∧z.1.length+mu rows z.1 z.2≤20000∧(∀ u∈z.1,PyData.strOk u=true)∧∀ u∈z.2,PyData.strOk u=true)
  ρI (fun z=>!z.2.isEmpty) ([],t.up) c1 ⟨fun r h=>h,hc.ups y t ht,by rw [mu_nil];have:=hc.small;simp;omega,(fun _ h=>nomatch h),(hc.oks y t ht).1⟩ ?_ ?_ ?_
 ·rintro ⟨f,ws⟩ ⟨_,_,hb,_⟩
  have hw:ws.length≤20000:=by simp only [mu] at hb;omega
  refine tr_gt (P1:=fun d=>d=.int ws.length) (ev_lenS (evv_blt rfl rfl rfl rfl rfl rfl) (evs_own (x:="waiting") (a:=a2) (ds:=ws.map .str) mh3 rfl) rfl fun l h=>⟨by rw [h];simp;exact q1 ‹_›,by rw [h];simp⟩) ev_int ?_
  rintro _ _ rfl rfl
  refine ⟨_,_,rfl,rfl,?_⟩
  cases ws<;>simp
 ·rintro ⟨f,ws⟩ G2 s2 ⟨hr,hk,hb,hf,hw⟩ hne c2
  obtain ⟨o,ws,rfl⟩:∃ o ws',ws=o::ws':=by cases ws with
   | nil=>simp at hne
   | cons o ws=>exact ⟨o,ws,rfl⟩
  obtain ⟨t',ht'⟩:=hk o (.head _)
  have hmu:mu rows f ws+1=mu rows f (o::ws):=by simp [mu];rfl
  have hlw:ws.length≤20000:=by simp [mu] at hb;omega
  refine st_pop (o:=.Name "waiting" _) (j:=0) (d:=.str o) (l:=a2) (ds:=(o::ws).map .str) (K':=own w.params a2 (ws.map .str)) a c2 (evv_own mh3 rfl) (.tail (.tail (.tail .head))) lkO (by simp;exact q1 ‹_›) rfl (.inr ⟨_,_,rfl,rfl⟩)
   (.skip (by decide) (.skip (by decide) (.skip (by decide) (.skip (by decide) (.skip (by decide) .new))))) rfl (.inl rfl) ?_
  intro G3 s3 c3
  have ho:PyData.strOk o=true:=hw o (.head _)
  refine st_ifN a noN c3 (p:=o∈f) (tr_notIn (P1:=fun d=>d=.str o) (P2:=fun ss=>ss=f) (ev_name mh5 rfl) (EvS.ss (evs_own (x:="found") (a:=a1) (ds:=f.map .str) mh4 rfl) fun l h=>⟨f,h,hf,rfl⟩) (by rintro _ _ rfl rfl;exact ⟨o,rfl,ho,rfl⟩)) (fun G4 s4 hin c4=>?neg150) (fun G4 s4 hin c4=>?pos150)
  rotate_left
  ·
   refine st_nil (st_nil ⟨(f,ws),G4,by show mu rows f ws < mu rows f (o::ws);exact Nat.le_refl _,⟨fun r h=>hr r (.old hin h),fun u hu=>hk u (.tail _ hu),by show f.length+mu rows f ws≤_;have:f.length+mu rows f (o::ws)≤20000:=hb;exact q6 ‹_›,hf,fun u hu=>hw u (.tail _ hu)⟩,?_⟩)
   exact c4.sub (List.sublist_append_left _ [_])
  ·
   have hm2:=mu_new (f:=f) (ws:=ws) ht' hin
   have hb':f.length+mu rows f (o::ws)≤20000:=hb
   have hlu:(ws++t'.up).length≤20000:=by simp only [mu] at hm2 hb';omega
   refine st_app (o:=.Name "found" _) (l:=a1) (ds:=f.map .str) (Ks:=fun d=>own w.params a1 (f.map .str++[d])) (P:=fun d=>d=.str o) a c4 (evv_own mh4 rfl) (fun d=>.tail (.tail (.tail (.tail .head)))) (fun d=>lkO) (ev_name mh5 rfl) (by simp;exact ql ‹_›) ?_
   rintro d G5 s5 rfl c5
   refine st_extT (o:=.Name "waiting" _) (l:=a2) (ds:=ws.map .str) (Ks:=fun d=>own w.params a2 (ws.map .str++d)) (P:=fun l=>l=t'.up.map .str) a c5 (evv_own mh3 rfl) (fun d=>.tail (.tail (.tail .head))) (fun d=>lkO) ?ex (by rintro d rfl;simp at hlu ⊢;exact q1 ‹_›) ?_
   case ex=>
    refine EvK.mono (K:=fun _=>KD w (fun d=>d=.tup (t'.up.map .str))) (ev_mdirect ⟨⟨_,.head _,rfl⟩,evv_self (.head _) rfl,mh1,R.att,R.no,handed_rep R.rep⟩ (ev_name mh5 rfl) ht' (hc.oks _ _ ht').2) fun _ v G s i ⟨d,r,e⟩=>⟨d,r,_,e,rfl⟩
   rintro d G6 s6 rfl c6
   have e1:f.map D.str++[.str o]=(f++[o]).map .str:=by simp
   have e2:ws.map D.str++t'.up.map .str=(ws++t'.up).map .str:=by simp
   rw [e1,e2] at c6
   have hu:upOf rows o=t'.up:=by unfold upOf;rw [ht']
   refine st_nil (st_nil ⟨(f++[o],ws++t'.up),G6,by show mu rows (f++[o]) (ws++t'.up) < mu rows f (o::ws);exact Nat.le_of_lt ‹_›,⟨fun r h=>hr r (.new hin (by rw [hu];exact h)),fun u hu=>?_,?_,fun u hu=>?_,fun u hu=>?_⟩,c6.sub (List.sublist_append_left _ [_])⟩)
   ·rcases List.mem_append.mp hu with h | h
    ·exact hk u (.tail _ h)
    ·exact hc.ups o t' ht' u h
   ·show (f++[o]).length+mu rows (f++[o]) (ws++t'.up)≤20000
    simp only [List.length_append,List.length_cons,List.length_nil];omega
   ·rcases List.mem_append.mp hu with h | h
    ·exact hf u h
    ·rw [List.mem_singleton.mp h];exact ho
   ·rcases List.mem_append.mp hu with h | h
    ·exact hw u (.tail _ h)
    ·exact (hc.oks o t' ht').1 u h
 ·rintro ⟨f,ws⟩ G2 s2 ⟨hr,hk,hb,hf,hw⟩ hne c2
  have:ws=[]:=by simpa using hne
  subst this
  refine st_retO (x:="found") (a1:=a1) (l:=f.map .str) a c2 mh4 (fun h=>nomatch h) rfl fun v G' s' z hv=>?_
  obtain ⟨ad,vs,m,l,e1,e2,e3,e4,e5,e6⟩:=hv
  exact k _ _ _ z.step ⟨ad,vs,m,l,e1,e2,e3,e4,e5,f,e6,hr f .done⟩
end Mine
end
section
namespace Mine
variable {w:World} {env:Env} {n:Nat} {N:List Addr} {ρ:Rho}
noncomputable def Kp (S X:List Addr) (h h':Heap):Prop:=∀ b o,h.get? b=some o→b∉X→∃ sl,h'.get? b=some {o with slots:=sl}∧(b∉S→sl=o.slots)
theorem Kp.refl {S X:List Addr} {h:Heap}:Kp S X h h:=fun b o e _=>⟨o.slots,e,fun _=>rfl⟩
theorem Kp.trans {S X:List Addr} {h h1 h2:Heap} (x:Kp S X h h1) (y:Kp S X h1 h2):Kp S X h h2:=fun b o e hb=>
 let ⟨_,e1,f1⟩:=x b o e hb
 let ⟨sl2,e2,f2⟩:=y b _ e1 hb
 ⟨sl2,e2,fun hS=>(f2 hS).trans (f1 hS)⟩
theorem Kp.of_keeps {S X:List Addr} {h h':Heap} (k:∀ b o,b∉X→h.get? b=some o→h'.get? b=some o):Kp S X h h':=fun b o e hb=>⟨o.slots,k b o hb e,fun _=>rfl⟩
structure Air (w:World) (h0:Heap) (fr:List Addr) (l:List Env) (e d:Addr) (z:Int) (tr:Bool) (h:Heap):Prop where
 ff:h.FunFrames {} l
 fn:∀ L∈l.filterMap (·.frame),(L∈fr∨h0.get? L=none)∧L≠d
 ex:∃ vs sl,h.get? e=some ⟨.ref 88,some d,.fields vs,sl⟩∧1 < vs.size∧((tr=false∧vs[1]? = some .none)∨∃ T oT ts,vs[1]? = some (.ref T)∧h.get? T=some oT∧oT.data=.fields ts∧3 < ts.size∧T≠e∧h0.get? T=none)
 sp:∃ es n fs t,h.get? d=some (dictOf es n)∧FS w.params es fs∧look fs "spot" = some (.int z t)
 ne:h0.get? e=none
 nd:h0.get? d=none
 keep:Kp fr [] h0 h
variable {h0:Heap} {fr:List Addr} {l outer:List Env} {e d:Addr} {z:Int} {A:Around} {s:Shared} {E:Value→Shared→Prop}
theorem Air.next {tr tr':Bool} {h h':Heap} {X:List Addr} (a:Air w h0 fr l e d z tr h) (k:Kp (l.filterMap (·.frame)) X h h') (hX:∀ b∈X,h0.get? b=none∧∃ o vs,h.get? b=some o∧o.data=.fields vs)
  (ex:∃ vs sl,h'.get? e=some ⟨.ref 88,some d,.fields vs,sl⟩∧1 < vs.size∧((tr'=false∧vs[1]? = some .none)∨∃ T oT ts,vs[1]? = some (.ref T)∧h'.get? T=some oT∧oT.data=.fields ts∧3 < ts.size∧T≠e∧h0.get? T=none)) :
  Air w h0 fr l e d z tr' h' where
 ff:=a.ff.of_keeps fun b o hb hnf=>by
  obtain ⟨sl,h1,_⟩:=k b o hb fun hm=>by
   obtain ⟨_,o',vs,h2,h3⟩:=hX b hm
   rw [hb] at h2;cases h2;exact hnf vs h3
  exact ⟨_,h1,rfl⟩
 fn:=a.fn
 ex:=ex
 sp:=by
  obtain ⟨es,n,fs,t,h1,h2,h3⟩:=a.sp
  obtain ⟨sl,h4,h5⟩:=k d _ h1 fun hm=>by
   obtain ⟨_,o',vs,h2,h3⟩:=hX d hm
   rw [h1] at h2;cases h2;cases h3
  have h6:=h5 fun hm=>(a.fn d hm).2 rfl
  subst h6
  exact ⟨es,n,fs,t,h4,h2,h3⟩
 ne:=a.ne
 nd:=a.nd
 keep:=fun b o hb _=>by
  obtain ⟨sl,h1,h2⟩:=a.keep b o hb (fun h=>nomatch h)
  obtain ⟨sl',h3,h4⟩:=k b _ h1 fun hm=>by
   have:=(hX b hm).1
   rw [hb] at this;cases this
  refine ⟨sl',h3,fun hf=>(h4 fun hm=>?_).trans (h2 hf)⟩
  rcases (a.fn b hm).1 with h5 | h5
  ·exact hf h5
  ·rw [hb] at h5;cases h5
theorem Air.frames {tr:Bool} {h:Heap} (a:Air w h0 fr (env::outer) e d z tr h):Air w h0 fr outer e d z tr h:=
 {a with ff:=a.ff.2.2,fn:=fun L hL=>a.fn L (by
   obtain ⟨_,⟨L',_,hf,_⟩,_⟩:=a.ff
   rw [List.filterMap_cons,hf];exact .tail _ hL)}
theorem Air.un {tr:Bool} {h:Heap} (a:Air w h0 fr l e d z tr h):Air w h0 fr l e d z false h:=
 {a with ex:=a.ex.elim fun vs h=>h.elim fun sl h=>⟨vs,sl,h.1,h.2.1,h.2.2.imp (fun h=>⟨rfl,h.2⟩) id⟩}
theorem air_entry {h:Heap} {L:Addr} {oe:Obj} {vs:Array Value} {head:Value} {b:Bool} {Q:Unit→Shared→Prop} (hfr:A.frames=some (env::outer)) (hl:s.heap.FunFrames {} (env::outer)) (hf:env.frame=some L)
  (he:s.heap.get? e=some oe) (hd:oe.data=.fields vs) (hsz:1 < vs.size)
  (h:∀ h' T oT ts,Kp ((env::outer).filterMap (·.frame)) [e] s.heap h'→h'.get? e=some (oe.mapFields (·.setIfInBounds 1 (.ref T)))→h'.get? T=some oT→oT.data=.fields ts→3 < ts.size→T≠e→s.heap.get? T=none→Q () {s with heap:=h'}) :
  wpAny (model pw w) A (do setField (.ref e) 1 (← EntryCells.newEntry head (← frameOf env) .none (rawInt L) .none (← entryPlaceOf L b))) Q E s:=by
 have hene:e∉(env::outer).filterMap (·.frame):=fun hm=>by
  obtain ⟨_,o,ho,hnf⟩:=hl.mem hm
  rw [he] at ho;cases ho;exact hnf vs hd
 refine wpAny_bind (wpAny_frameOf_fun hfr hl hf fun h₁ hs₁=>?_)
 refine wpAny_bind (wpAny_entryPlaceOf fun pl hpl=>?_)
 unfold EntryCells.newEntry newFields
 refine wpAny_bind (wpAny_newObj_type ?_ (hpl.sizeOk5 _ _ _ _ _))
 have he₁:h₁.get? e=some oe:=(hs₁.2.1 e hene).trans he
 have he₂:=Heap.get?_push_of_some (h:=h₁) {cls:=.type "traceback",dict:=none,data:=.fields ([head,.ref L,.none,rawInt L,.none]++(if pl.isEmpty then List.replicate 6 Value.none else pl)).toArray} he₁
 refine wpAny_setField he₂ hd hsz ?_
 have hTe:h₁.objs.size≠e:=Nat.ne_of_gt (Heap.lt_size he₁)
 have hd₃:=Obj.data_mapFields hd (·.setIfInBounds 1 (Value.ref h₁.objs.size))
 refine h _ h₁.objs.size _ _ (fun b o hb hbe=>?_) (Heap.get?_update_self _ he₂ (Obj.isFreed_of_fields hd₃)) ((Heap.get?_update_other _ _ (Ne.symm hTe)).trans (Heap.get?_push_size h₁ rfl)) rfl (by simp only [List.size_toArray,List.length_append,List.length_cons,List.length_nil]<;>omega) hTe ?_
 ·obtain ⟨sl,h1⟩:=hs₁.2.2 b o hb
  have hbe':b≠e:=fun q=>hbe (q▸List.mem_singleton.mpr rfl)
  refine ⟨sl,?_,fun hS=>?_⟩
  ·rw [Heap.get?_update_other _ _ (Ne.symm hbe')]
   exact Heap.get?_push_of_some _ h1
  ·have h2:=(hs₁.2.1 b hS).trans hb
   rw [h1] at h2
   exact congrArg (fun o=>Obj.slots o) (Option.some.inj h2)
 ·have:=hs₁.1
  show s.heap.get? h₁.objs.size=none
  rw [this];exact fresh_size _
theorem air_note {tr:Bool} {Q:Unit→Shared→Prop} (hfr:A.frames=some (env::outer)) (a:Air w h0 fr (env::outer) e d z tr s.heap) (h:∀ h',Air w h0 fr (env::outer) e d z true h'→Q () {s with heap:=h'}):wpAny (model pw w) A (noteFrame (.ref e) env) Q E s:=by
 obtain ⟨_,⟨L,_,hf,_⟩,_⟩:=a.ff
 obtain ⟨vs,sl,he,hsz,ht⟩:=a.ex
 unfold noteFrame
 simp only [hf]
 have dom:∀ T,s.heap.get? T=none→h0.get? T=none:=fun T hT=>by
  cases q:h0.get? T with
  | none=>rfl
  | some o=>obtain ⟨sl,h1,_⟩:=a.keep T o q (fun h=>nomatch h);rw [hT] at h1;cases h1
 rcases ht with ⟨_,h1⟩ | ⟨T,oT,ts,h1,hT,hdT,hs3,hTe,hT0⟩
 ·refine wpAny_bind (wpAny_field he rfl h1 ?_)
  rw [if_neg (by decide)]
  refine air_entry (h:={}) hfr a.ff hf he rfl hsz fun h' T oT ts k e1 e2 e3 e4 e5 e6=>h h' (a.next k (fun b hb=>?_) ⟨_,_,e1,by simpa using hsz,.inr ⟨T,oT,ts,by simp [hsz],e2,e3,e4,e5,dom T e6⟩⟩)
  rw [List.mem_singleton.mp hb]
  exact ⟨a.ne,_,_,he,rfl⟩
 ·refine wpAny_bind (wpAny_field he rfl h1 ?_)
  rw [if_pos (show (Value.ref T != Value.none)=true from by simp)]
  have h3:ts[3]? = some ts[3]:=Array.getElem?_eq_getElem hs3
  refine wpAny_bind (wpAny_field hT hdT h3 ?_)
  by_cases hq:(ts[3]==rawInt L)=true
  ·rw [if_pos hq]
   exact wpAny_pure (h _ {a with ex:=⟨vs,sl,he,hsz,.inr ⟨T,oT,ts,h1,hT,hdT,hs3,hTe,hT0⟩⟩})
  ·rw [if_neg hq]
   refine wpAny_bind (wpAny_setField hT hdT hs3 ?_)
   have other:∀ b,b≠T→(s.heap.update T (Obj.mapFields (·.setIfInBounds 3 Value.none))).get? b=s.heap.get? b:=fun b hb=>Heap.get?_update_other _ _ (Ne.symm hb)
   have hT2:=Heap.get?_update_self (Obj.mapFields (·.setIfInBounds 3 Value.none)) hT (Obj.isFreed_of_fields (Obj.data_mapFields hdT _))
   have k1:Kp ((env::outer).filterMap (·.frame)) [e,T] s.heap (s.heap.update T (Obj.mapFields (·.setIfInBounds 3 Value.none))):=.of_keeps fun b o hb e=>by
    rw [other b (fun q=>hb (by rw [q];simp))];exact e
   have hff:(s.heap.update T (Obj.mapFields (·.setIfInBounds 3 Value.none))).FunFrames {} (env::outer):=a.ff.of_keeps fun b o hb hnf=>⟨o,by rw [other b (fun q=>by rw [q,hT] at hb;cases hb;exact hnf _ hdT)];exact hb,rfl⟩
   refine air_entry (s:={s with heap:=s.heap.update T (Obj.mapFields (·.setIfInBounds 3 Value.none))}) (h:={}) hfr hff hf ((other e (Ne.symm hTe)).trans he) rfl hsz fun h' T' oT' ts' k e1 e2 e3 e4 e5 e6=>h h' ?_
   have k2:Kp ((env::outer).filterMap (·.frame)) [e,T] (s.heap.update T (Obj.mapFields (·.setIfInBounds 3 Value.none))) h':=fun b o hb hx=>k b o hb fun q=>hx (by rw [List.mem_singleton.mp q];simp)
   refine a.next (k1.trans k2) (fun b hb=>?_) ⟨_,_,e1,by simpa using hsz,.inr ⟨T',oT',ts',by simp [hsz],e2,e3,e4,e5,dom T' ?_⟩⟩
   ·rcases List.mem_cons.mp hb with q | q
    ·rw [q];exact ⟨a.ne,_,_,he,rfl⟩
    ·rw [List.mem_singleton.mp q];exact ⟨hT0,_,_,hT,hdT⟩
   ·have e6':(s.heap.update T (Obj.mapFields (·.setIfInBounds 3 Value.none))).get? T'=none:=e6
    by_cases q:T'=T
    ·rw [q,hT2] at e6';cases e6'
    ·rw [other T' q] at e6';exact e6'
theorem air_flight {fl:Option Addr} {Q:Unit→Shared→Prop} (a:Air w h0 fr l e d z true s.heap) (h:∀ h',Air w h0 fr l e d z true h'→Q () {s with heap:=h'}):wpAny (model pw w) A (setFlight (.ref e) fl) Q E s:=by
 obtain ⟨vs,sl,he,hsz,ht⟩:=a.ex
 rcases ht with ⟨h1,_⟩ | ⟨T,oT,ts,h1,hT,hdT,hs3,hTe,hT0⟩
 ·cases h1
 ·unfold setFlight
  refine wpAny_bind (wpAny_field he rfl h1 ?_)
  rw [if_pos (show (Value.ref T != Value.none)=true from by simp)]
  refine wpAny_setField hT hdT hs3 (h _ ?_)
  have other:∀ b,b≠T→(s.heap.update T (Obj.mapFields (·.setIfInBounds 3 (fl.elim .none fun f=>rawInt f)))).get? b=s.heap.get? b:=fun b hb=>Heap.get?_update_other _ _ (Ne.symm hb)
  refine a.next (X:=[T]) (.of_keeps fun b o hb e=>by rw [other b (fun q=>hb (by rw [q];simp))];exact e) (fun b hb=>by rw [List.mem_singleton.mp hb];exact ⟨hT0,_,_,hT,hdT⟩) ?_
  have hT2:=Heap.get?_update_self (Obj.mapFields (·.setIfInBounds 3 (fl.elim .none fun f=>rawInt f))) hT (Obj.isFreed_of_fields (Obj.data_mapFields hdT _))
  exact ⟨vs,sl,(other e (Ne.symm hTe)).trans he,hsz,.inr ⟨T,_,_,h1,hT2,Obj.data_mapFields hdT _,by simpa using hs3,hTe,hT0⟩⟩
noncomputable def Same (s s':Shared):Prop:=∃ h tk,s' = {s with heap:=h,toks:=tk}
theorem Same.trans {s s1 s2:Shared} (x:Same s s1) (y:Same s1 s2):Same s s2:=by obtain ⟨h,tk,rfl⟩:=x;obtain ⟨h',tk',rfl⟩:=y;exact ⟨h',tk',rfl⟩
structure FrG (h0:Heap) (fr:List Addr) (l:List Env) (N:List Addr) (h:Heap):Prop where
 ff:h.FunFrames {} l
 fn:∀ L∈l.filterMap (·.frame),(L∈fr∨h0.get? L=none)∧L∉N
 keep:Kp fr [] h0 h
 nN:∀ a∈N,h0.get? a=none
noncomputable def RX (w:World) (A:Around) (N:List Addr) (X:Int→Prop) (s:Shared) (E:Value→Shared→Prop):Prop:=
 ∀ z,X z→∃ h0 fr l,A.frames=some l∧FrG h0 fr l N s.heap∧∀ e d s',Same s s'→Air w h0 fr l e d z false s'.heap→E (.ref e) s'
theorem FrG.step {N':List Addr} {G G':Fz} {s s':Shared} (f:FrG h0 fr l N s.heap) (y:Step G s N' G' s') (hN:∀ a∈N',a∈N∨(h0.get? a=none∧a∉l.filterMap (·.frame))):FrG h0 fr l N s'.heap where
 ff:=by
  have key:∀ l':List Env,(∀ L∈l'.filterMap (·.frame),L∉N')→s.heap.FunFrames {} l'→s'.heap.FunFrames {} l':=by
   intro l'
   induction l' with
   | nil=>intro _ _;trivial
   | cons env rest ih=>
    rintro hL ⟨hk,⟨L,o,hf,hn,ho,hd⟩,hr⟩
    rw [List.filterMap_cons,hf] at hL
    exact ⟨hk,⟨L,o,hf,hn,y.keep _ _ (hL L (.head _)) ho,hd⟩,ih (fun L' h=>hL L' (.tail _ h)) hr⟩
  exact key l (fun L hL hm=>(hN L hm).elim (f.fn L hL).2 fun q=>q.2 hL) f.ff
 fn:=f.fn
 keep:=fun b o hb hx=>by
  obtain ⟨sl,h1,h2⟩:=f.keep b o hb hx
  refine ⟨sl,y.keep _ _ (fun hm=>?_) h1,h2⟩
  rcases hN b hm with q | q
  ·have:=f.nN b q;rw [hb] at this;cases this
  ·rw [hb] at q;cases q.1
 nN:=f.nN
theorem RX.step {X:Int→Prop} {G G':Fz} {s s':Shared} (r:RX w A N X s E) (y:Step G s N G' s'):RX w A N X s' E:=fun z hz=>by
 obtain ⟨h0,fr,l,h1,h2,h3⟩:=r z hz
 refine ⟨h0,fr,l,h1,h2.step y fun a h=>.inl h,fun e d s2 hs a=>h3 e d s2 (.trans ?_ hs) a⟩
 obtain ⟨h,tk,e⟩:=y.same
 exact ⟨h,tk,e⟩
theorem RX.no {s:Shared}:RX w A N (fun _=>False) s E:=fun _ h=>h.elim
theorem RX.loop {X:Int→Prop} {s:Shared} (r:RX w A N X s E) (hA:∀ l,A.frames=some l→∃ o,l=env::o):RX w A N X s (EFor w A env E):=fun z hz=>by
 obtain ⟨h0,fr,l,h1,h2,h3⟩:=r z hz
 obtain ⟨o,rfl⟩:=hA l h1
 refine ⟨h0,fr,_,h1,h2,fun e d s2 hs a=>air_note h1 a fun h' a'=>?_⟩
 show wpAny _ _ _ _ _ _
 obtain ⟨vs,sl,he,hsz,ht⟩:=a'.ex
 rcases ht with ⟨h1,_⟩ | ⟨T,oT,ts,g1,hT,hdT,hs3,hTe,hT0⟩
 ·cases h1
 refine wpAny_bind (wpAny_field he rfl g1 ?_)
 rw [if_neg (by simp)]
 exact air_flight a' fun h2 a2=>h3 e d _ (hs.trans ⟨_,_,rfl⟩) a2.un
theorem RX.leave {X:Int→Prop} {s s₁:Shared} {A₀:Around} (r:RX w A₀ N X s E) {G₀ G:Fz} (c:St w env G₀ s N ρ G s₁) (hl:s.heap.get? env.locals=none) (hf:env.frame=some env.locals) (hk:env.scope.kind≠.module) (hN:∀ a∈N,s.heap.get? a≠none) :
  RX w (A₀.deeper env) N X s₁ (fun e s'=>wpAny (model pw w) (A₀.deeper env) (leaving env e) (fun _ s''=>E e s'') (fun e' s''=>E e' s'') s'):=fun z hz=>by
 obtain ⟨h0,fr,l,h1,h2,h3⟩:=r z hz
 have h2':=h2.step c.step fun a h=>.inl h
 have h0L:h0.get? env.locals=none:=by
  cases q:h0.get? env.locals with
  | none=>rfl
  | some o=>obtain ⟨sl,e1,_⟩:=h2.keep _ o q (fun h=>nomatch h);rw [hl] at e1;cases e1
 obtain ⟨m,o,es,ep,ho,hd,_⟩:=c.fr
 refine ⟨h0,fr,env::l,Around.frames_deeper h1,⟨⟨hk,⟨env.locals,o,hf,rfl,ho,fun vs q=>by rw [hd] at q;cases q⟩,h2'.ff⟩,fun L hL=>?_,h2'.keep,h2'.nN⟩,fun e d s2 hs a=>?_⟩
 ·rw [List.filterMap_cons,hf] at hL
  rcases List.mem_cons.mp hL with q | q
  ·rw [q];exact ⟨.inr h0L,fun hm=>hN _ hm hl⟩
  ·exact h2.fn L q
 ·unfold leaving
  refine wpAny_bind (air_note (Around.frames_deeper h1) a fun h' a'=>air_flight a' fun h2 a2=>h3 e d _ (.trans ?_ (hs.trans ⟨_,_,rfl⟩)) a2.frames.un)
  obtain ⟨h,tk,e⟩:=c.step.same
  exact ⟨h,tk,e⟩
end Mine
end
section
namespace Mine
variable {w:World} {env:Env} {n:Nat} {N:List Addr} {ρ:Rho}
noncomputable abbrev kfBm:List Value:=[.ref 76,.ref 47,.type "Exception",.type "BaseException",.type "object"]
section
variable {A:Around} {E:Value→Shared→Prop} {h:Heap} {g:Array GenState} {d:Drawn} {t:Nat} {os:OsState}
inductive Kf (h:Heap):Prop
 | mk (nm q N bs hdct sn sub ab col dd k0 k1 k2 k3 k5):h.get? 88=some (excClassObj nm q 88 N bs kfBm hdct sn sub ab col dd k0 k1 k2 k3 k5 "Exception.__new__")→Kf h
theorem kf_of {P:Params} (X:(KK P).In h):Kf h:=⟨_,_,_,_,_,_,_,_,_,_,_,_,_,_,_,X 88 _ rfl⟩
theorem kf_new {R:Result→Shared→Prop} {rest:List Value} (X:Kf h) (hq:R (.ok (.ret (.ref (h.objs.size+1)))) ⟨(h.push {cls:=.type "tuple",data:=.seq rest.toArray}).push
   {cls:=.ref 88,data:=.fields #[.ref h.objs.size,.none,.none,.none,.bool false,.none]},g,d,t,os⟩) (hrest:rest.length≤sizeLine) :
  codeAny (model pw w) A (.call (.builtin "Exception.__new__") ⟨.ref 88::rest,[]⟩) R ⟨h,g,d,t,os⟩:=by
 obtain ⟨nm,q,N,bs,hdct,sn,sub,ab,col,dd,k0,k1,k2,k3,k5,hC⟩:=X
 have Fn:=PySem.F.excBase_Exception
 have hstar:=Fn.noStar
 have hends:=Fn.ends
 have hcB:(Value.ref 88::kfBm).contains (.type "Exception")=true:=by decide +kernel
 have hcA:(Value.ref 88::kfBm).contains (.type "AttributeError")=false:=by decide +kernel
 have hcN:(Value.ref 88::kfBm).contains (.type "NameError")=false:=by decide +kernel
 refine codeAny_call_builtin_code (Code.quiet_builtin _ Fn.quiet) ?_
 simp only [checkBuiltinCall,Fn.newKind,Fn.newSplit,Fn.newRow]
 repeat (first | refine wpAny_loadPart_at hC ?_ | (refine wpAny_isSubtype_exc hC ?_;rw [hcB]) | refine wpAny_staticBase_exc hC ?_ | refine wpAny_madeBy_exc hC ?_ | simp only [bne_self_eq_false,Bool.false_eq_true,if_false] | wp_step)
 refine codeAny_builtinAt Fn.entry ?_
 unfold Builtin.«BaseException.__new__»
 refine _root_.PySem.wpAt_bind ?_
 show _root_.PySem.wpAt _ _ _ (stack >>= _) _ _ _
 refine _root_.PySem.wpAt_bind (_root_.PySem.wpAt_stack fun p below=>_root_.PySem.wpAt_of_wpAny ?_)
 wp_walk
 refine _root_.PySem.wpAt_of_wpAny ?_
 rw [Fn.owner]
 repeat (first | with_reducible refine wpAny_madeHere_exc Fn.canon hC ?_ | with_reducible refine wpAny_loadPart_at hC ?_ | (with_reducible refine wpAny_isSubtype_exc hC ?_;first | rw [hcB] | rw [hcA] | rw [hcN]) | wp_step)
 show R _ _
 rw [Heap.size_push]
 exact hq
theorem kf_type_call {rest:List Value} {Q:Fin→Shared→Prop} (X:(KK w.params).In h)
  (hq:∀ h' e,Heap.MadeExcOf h h' e (.ref 88) rest→wpAny (model pw w) A (call (.ref 66) (.ref e::rest)) (fun r s'=>r=.none∧Q (.done (.ret (.ref e))) s') E ⟨h',g,d,t,os⟩) (hrest:rest.length≤sizeLine) :
  wpAny (model pw w) A (Builtin.«type.__call__» ⟨.ref 88::rest,[]⟩) Q E ⟨h,g,d,t,os⟩:=by
 obtain ⟨nm,q,N,bs,hdct,sn,sub,ab,col,dd,k0,k1,k2,k3,k5,hC⟩:=kf_of X
 have init:findIn (KK w.params) (.ref 88) "__init__" = some (some (.ref 66)):=by rfl
 have tf:typeIn (KK w.params) (.ref 66)=some (.type "function"):=by rfl
 repeat (first | with_reducible refine wpAny_loadPart_at hC ?_ | with_reducible refine wpAny_madeBy_exc hC ?_ | wp_step)
 refine kf_new (kf_of X) ?_ hrest
 show wpAny _ _ _ _ _ _
 have up:∀ b o,h.get? b=some o→((h.push {cls:=.type "tuple",data:=.seq rest.toArray}).push {cls:=.ref 88,data:=.fields #[.ref h.objs.size,.none,.none,.none,.bool false,.none]}).get? b=some o:=
  fun b o e=>Heap.get?_push_of_some _ (Heap.get?_push_of_some _ e)
 have hC₁:=up _ _ hC
 have X₁:=X.keeps up
 have hget:((h.push {cls:=.type "tuple",data:=.seq rest.toArray}).push
   {cls:=.ref 88,data:=.fields #[.ref h.objs.size,.none,.none,.none,.bool false,.none]}).get? (h.objs.size+1)=some
   {cls:=.ref 88,data:=.fields #[.ref h.objs.size,.none,.none,.none,.bool false,.none]}:=by heap_get
 have hcC:(Value.ref 88::kfBm).contains (.ref 88)=true:=by simp
 unfold isInstance
 repeat (first | with_reducible refine wpAny_loadPart_at hget ?_ | (with_reducible refine wpAny_isSubtype_exc hC₁ ?_;rw [hcC]) | wp_step)
 show wpAny _ _ (typeLookup (.ref 88) _) _ _ _
 refine (looks_findIn (M:=model pw w) X₁ init).at ?_
 refine wpAny_holding (wpAny_bind ((bind_fn X₁ _ tf).at ?_))
 refine wpAny_bind (wpAny_mono (hq _ (h.objs.size+1) ⟨fun b o hb=>up _ _ hb,Heap.get?_none_of_le (Nat.le_succ _),h.objs.size,hget,Heap.get?_none_of_le (Nat.le_refl _),?_⟩) (fun r s' hr=>?_) fun _ _ x=>x)
 ·exact Heap.get?_push_of_some _ (Heap.get?_push_at rfl rfl)
 ·obtain ⟨rfl,hQ⟩:=hr
  wp_walk
  exact hQ
theorem kf_call {rest:List Value} {Q:Value→Shared→Prop} (X:(KK w.params).In h)
  (hq:∀ h' e,Heap.MadeExcOf h h' e (.ref 88) rest→wpAny (model pw w) (A.under (.builtin "type.__call__" ⟨.ref 88::rest,[]⟩)) (call (.ref 66) (.ref e::rest)) (fun r s'=>r=.none∧Q (.ref e) s') E ⟨h',g,d,t,os⟩) (hrest:rest.length≤sizeLine) :
  wpAny (model pw w) A (call (.ref 88) rest) Q E ⟨h,g,d,t,os⟩:=by
 obtain ⟨nm,q,N,bs,hdct,sn,sub,ab,col,dd,k0,k1,k2,k3,k5,hC⟩:=kf_of X
 have f1:=tc_lookup
 have f2:=tc_bind (.ref 88)
 have hT:(⟨h,g,d,t,os⟩:Shared).TypeIs (.ref 88) "type":=⟨_,hC,rfl⟩
 refine wpAny_call (codeAny_of_tree ?_)
 show wpAny _ _ (callAny (.ref 88) _) _ _ _
 repeat (any_goals (first | assumption | with_reducible refine wpAny_loadPart_at hC ?_ | wp_step))
 refine ⟨rfl,?_⟩
 refine codeAny_call_builtin_at (Code.quiet_builtin _ (by decide +kernel)) entry_typeCall (wpAny_check_type_call_sub hC (kf_type_call X (fun h' e hm=>?_) hrest))
 exact hq h' e hm
end
end Mine
end
section
namespace Mine
variable {w:World} {env:Env} {n:Nat} {N:List Addr} {ρ:Rho}
theorem slot_wd_get:Slot "wrapper_descriptor" "__get__" "wrapper_descriptor.__get__":=.of (owner:="wrapper_descriptor") (n:="__get__") (by rw [typeLookup_type,builtinLookup_eq_fast];kernel_rfl) (by decide +kernel) (by decide +kernel) (by decide +kernel)
 (by first | exact .inl (by decide +kernel) | exact .inr (by decide +kernel)) (by rw [isSubtype_type];kernel_rfl)
theorem entry_wd_get:entryFor table "wrapper_descriptor.__get__" = some Builtin.«wrapper_descriptor.__get__»:=entryFor_of_tree (by kernel_rfl)
theorem args_wd_get (a b c:Value):argsOk "wrapper_descriptor.__get__" ⟨[a,b,c],[]⟩:=by unfold argsOk;kernel_rfl
theorem type_ei:typeOf (.builtin "Exception.__init__")=pure (.type "wrapper_descriptor"):=by kernel_rfl
section
variable {A:Around} {E:Value→Shared→Prop} {h:Heap} {g:Array GenState} {d:Drawn} {t:Nat} {os:OsState}
theorem wd_gen {x C:Addr} {i:String} {ox:Obj} {Q:Fin→Shared→Prop} (hx:h.get? x=some ox) (hxc:ox.cls=.ref C) (hsub:Looks (model pw w) h (isSubtype (.ref C) (.type (".".intercalate (i.cutAt '.').dropLast))) true)
  (hq:Q (.done (.ret (.ref h.objs.size))) ⟨h.push {cls:=.type "method-wrapper",data:=.fields #[.builtin i,.ref x]},g,d,t,os⟩) :
  wpAny (model pw w) A (Builtin.«wrapper_descriptor.__get__» ⟨[.builtin i,.ref x,.ref C],[]⟩) Q E ⟨h,g,d,t,os⟩:=by
 have hn:(Value.ref x==Value.none)=false:=by simp
 unfold Builtin.«wrapper_descriptor.__get__»
 repeat (first | (with_reducible refine wpAny_loadPart_at hx ?_;rw [hxc]) | (with_reducible refine Looks.at hsub ?_) | wp_step)
 exact hq
set_option maxHeartbeats 1000000 in
theorem sga_gen {so D x C:Addr} {i:String} {l₀ l:List Value} {K:Frag} {name:Str} {tk:Tok} {Q:Fin→Shared→Prop}
  (hso:h.get? so=some {cls:=.type "super",dict:=none,data:=.fields #[.ref D,.ref x,.ref C],slots:=#[]}) (hno:Looks (model pw w) h (opaqueClassAbove (.ref C)) none)
  (hC:Looks (model pw w) h (mroOf (.ref C)) l₀) (hl:(l₀.dropWhile (· != .ref D)).drop 1=l) (X:K.In h)
  (hf:alongIn K name l=some (some (.builtin i))) (hty:typeOf (.builtin i)=pure (.type "wrapper_descriptor")) (hxC:x≠C) (hn:(name==("__class__" : Str))=false)
  {ox:Obj} (hx:h.get? x=some ox) (hxc:ox.cls=.ref C) (hsub:Looks (model pw w) h (isSubtype (.ref C) (.type (".".intercalate (i.cutAt '.').dropLast))) true)
  (hq:Q (.done (.ret (.ref h.objs.size))) ⟨h.push {cls:=.type "method-wrapper",data:=.fields #[.builtin i,.ref x]},g,d,t,os⟩) :
  wpAny (model pw w) A (Builtin.«super.__getattribute__» ⟨[.ref so,.str name tk],[]⟩) Q E ⟨h,g,d,t,os⟩:=by
 have hlk:=slot_wd_get.lookup
 have hne:(Value.ref x==Value.ref C)=false:=by simp [hxC]
 have hTf:(⟨h,g,d,t,os⟩:Shared).TypeIs (.builtin i) "wrapper_descriptor":=hty
 have hdt:({cls:=.type "super",dict:=none,data:=.fields #[.ref D,.ref x,.ref C],slots:=#[]}:Obj).data=.fields #[.ref D,.ref x,.ref C]:=rfl
 have f0:(#[.ref D,.ref x,.ref C]:Array Value)[0]? = some (.ref D):=rfl
 have f1:(#[.ref D,.ref x,.ref C]:Array Value)[1]? = some (.ref x):=rfl
 have f2:(#[.ref D,.ref x,.ref C]:Array Value)[2]? = some (.ref C):=rfl
 unfold Builtin.«super.__getattribute__»
 repeat (first
  | (with_reducible refine wpAny_field hso hdt f0 ?_) | (with_reducible refine wpAny_field hso hdt f1 ?_) | (with_reducible refine wpAny_field hso hdt f2 ?_)
  | (with_reducible refine ks_wpAny_notOpaque hno ?_)
  | (with_reducible refine Looks.at hC ?_;rw [hl])
  | (refine ks_forIn_along X (fun _ _=>rfl) rfl ?_ hf)
  | (with_reducible refine wpAny_of_eq hty ?_)
  | (with_reducible refine wpAny_call_entry slot_wd_get hTf entry_wd_get ?_ (args_wd_get _ _ _))
  | (with_reducible refine wd_gen hx hxc hsub ?_)
  | (simp only [hn,hne,Bool.or_false,Bool.false_eq_true,if_false])
  | wp_step
  | dsimp only)
 all_goals exact ⟨_,rfl,wpAny_pure (wpAny_pure hq)⟩
theorem sga_blt {so e:Addr} {oe:Obj} {tk:Tok} {Q:Fin→Shared→Prop} (X:(KK w.params).In h)
  (hso:h.get? so=some {cls:=.type "super",dict:=none,data:=.fields #[.ref 47,.ref e,.ref 88],slots:=#[]}) (he:h.get? e=some oe) (hc:oe.cls=.ref 88)
  (hq:Q (.done (.ret (.ref h.objs.size))) ⟨h.push {cls:=.type "method-wrapper",data:=.fields #[.builtin "Exception.__init__",.ref e]},g,d,t,os⟩) :
  wpAny (model pw w) A (Builtin.«super.__getattribute__» ⟨[.ref so,.str "__init__" tk],[]⟩) Q E ⟨h,g,d,t,os⟩:=by
 obtain ⟨nm,q,N,bs,hdct,sn,sub,ab,col,dd,k0,k1,k2,k3,k5,hC⟩:=kf_of X
 have hne:e≠88:=fun q=>by subst q;rw [hC] at he;cases he;cases hc
 refine sga_gen (K:=KK w.params) (l₀:=.ref 88::kfBm) hso (looks_opaque X (by rfl)) (fun A Q E s k q=>?_) (l:=[.type "Exception",.type "BaseException",.type "object"]) (by decide +kernel) X ?_ type_ei hne (by decide) he hc (looks_mroIn X ?_) hq
 ·obtain ⟨hh,gg,dd',tt,oo⟩:=s
  exact wpAny_mroOf_exc (k _ _ hC) q
 ·have:ownIn (KK w.params) "__init__" (.type "Exception")=some (some (.builtin "Exception.__init__")):=by
   show some (fastBuiltinOwn "Exception" "__init__")=_
   kernel_rfl
  unfold alongIn
  rw [this]
 ·have:(".".intercalate ("Exception.__init__".cutAt '.').dropLast) = "Exception":=by decide +kernel
  rw [this]
  rfl
theorem gm_blt {so e:Addr} {oe:Obj} {pl:Sem Bool} {Q:Value×List Value→Shared→Prop} (X:(KK w.params).In h)
  (hso:h.get? so=some {cls:=.type "super",dict:=none,data:=.fields #[.ref 47,.ref e,.ref 88],slots:=#[]}) (he:h.get? e=some oe) (hc:oe.cls=.ref 88)
  (hq:Q (.ref h.objs.size,[]) ⟨h.push {cls:=.type "method-wrapper",data:=.fields #[.builtin "Exception.__init__",.ref e]},g,d,t+1,os⟩) :
  wpAny (model pw w) A (getMethod (.ref so) "__init__" pl) Q E ⟨h,g,d,t,os⟩:=by
 have hlk:=PySem.F.ks_slot_super_ga.lookup
 have hcan:=PySem.F.ks_canon_super_ga
 have hT:∀ t',(⟨h,g,d,t',os⟩:Shared).TypeIs (.ref so) "super":=fun _=>⟨_,hso,rfl⟩
 unfold getMethod
 refine wpAny_bind (wpAny_specialOf (hT _) hlk ?_)
 show wpAny _ _ (if (Manifest.canonical "super.__getattribute__" != "object.__getattribute__")=true then _ else _) _ _ _
 rw [if_pos hcan]
 unfold getAttr getAttrBy
 refine wpAny_bind (wpAny_bind (wpAny_mkText (wpAny_holding (wpAny_bind (wpAny_typeOf (hT _) (wpAny_bind (wpAny_of_eq hlk ?_)))))))
 show wpAny _ _ (getAttrByItsOwn (.ref so) (.str "__init__" t) (.type "super") (.builtin "super.__getattribute__") true false) _ _ _
 unfold getAttrByItsOwn hookBefore callGetattribute boundAndCalled
 refine wpAny_bind (wpAny_of_eq (show (if onTheHeap (.type "super") then typeLookup (.type "super") "__getattr__" else pure none)=pure none from rfl) ?_)
 refine wpAny_bind (wpAny_attempt (wpAny_holding ?_))
 show wpAny _ _ (bindSpecial (.builtin "super.__getattribute__") (.ref so) >>= _) _ _ _
 refine wpAny_bind (wpAny_of_eq (PySem.F.ks_slot_super_ga.bind _) ?_)
 refine wpAny_mono (Q:=fun v s'=>v=.ref h.objs.size∧s'=⟨h.push {cls:=.type "method-wrapper",data:=.fields #[.builtin "Exception.__init__",.ref e]},g,d,t+1,os⟩) (E:=fun _ _=>False)
  (wpAny_call_entry PySem.F.ks_slot_super_ga (hT _) PySem.F.ks_entry_super_ga (sga_blt X hso he hc ⟨_,rfl,rfl,rfl⟩) (PySem.F.ks_gaArgs_super _ _)) (fun v s' hv=>?_) fun _ _ z=>z.elim
 obtain ⟨rfl,rfl⟩:=hv
 exact wpAny_pure (wpAny_pure hq)
end
end Mine
end
section
namespace Mine
variable {w:World} {env:Env} {n:Nat} {N:List Addr} {ρ:Rho}
theorem chk_ei {M:Model} {A:Around} {E:Value→Shared→Prop} {s:Shared} {e:Addr} {oe:Obj} {v:Value} {Q:Unit→Shared→Prop} (X:Kf s.heap) (he:s.heap.get? e=some oe) (hc:oe.cls=.ref 88) (hq:Q () s) :
  wpAny M A (checkBoundCall "Exception.__init__" ⟨[.ref e,v],[]⟩) Q E s:=by
 have F:=PySem.F.excBase_Exception
 have hshort:=F.noStar
 obtain ⟨nm,q,N,bs,hdct,sn,sub,ab,col,dd,k0,k1,k2,k3,k5,hC⟩:=X
 obtain ⟨h,g,d,t,os⟩:=s
 simp only [checkBoundCall,F.initKind,F.initRow]
 repeat (first | (with_reducible refine wpAny_loadPart_at he ?_;rw [hc]) | with_reducible refine wpAny_loadPart_at hC ?_ | wp_step)
 exact hq
theorem call_ei {A:Around} {E:Value→Shared→Prop} {s:Shared} {q e t0:Addr} {v:Value} {dd:Option Addr} {sl:Array (Option Value)} {Q:Value→Shared→Prop} (X:(KK w.params).In s.heap)
  (hb:s.heap.get? q=some {cls:=.type "method-wrapper",dict:=none,data:=.fields #[.builtin "Exception.__init__",.ref e],slots:=#[]})
  (he:s.heap.get? e=some ⟨.ref 88,dd,.fields #[.ref t0,.none,.none,.none,.bool false,.none],sl⟩)
  (hq:∀ h' t',(∀ b o,b≠e→s.heap.get? b=some o→h'.get? b=some o)→h'.get? e=some ⟨.ref 88,dd,.fields #[.ref t',.none,.none,.none,.bool false,.none],sl⟩→Q .none {s with heap:=h'}) :
  wpAny (model pw w) A (call (.ref q) [v]) Q E s:=by
 have F:=PySem.F.excBase_Exception
 refine wpAny_call (codeAny_of_tree ?_)
 show wpAny _ _ (callAny (.ref q) ⟨[v],[]⟩) _ _ _
 unfold callAny
 refine wpAny_bind (wpAny_load hb ?_)
 show wpAny _ _ (do checkBoundCall "Exception.__init__" ⟨[.ref e,v],[]⟩;again (.builtin "Exception.__init__" ⟨[.ref e,v],[]⟩)) _ _ _
 refine wpAny_bind (chk_ei (kf_of X) he rfl (wpAny_pure ⟨Code.quiet_builtin _ (by decide +kernel),codeAny_builtin F.initEntry ?_⟩))
 obtain ⟨h,g,d,t,os⟩:=s
 unfold Builtin.«BaseException.__init__»
 wp_walk
 refine hq _ h.objs.size (fun b o hb e'=>(Heap.get?_update_other _ _ (Ne.symm hb)).trans (Heap.get?_push_of_some _ e')) ?_
 rw [Heap.get?_update_self _ (Heap.get?_push_of_some _ he) rfl]
 rfl
theorem FS.refKey {P:Params} {es:List DictEntry} {fs:List (Str×Value)} (f:FS P es fs):es.toArray.any (·.refKey)=false:=by
 rw [← Array.any_toList];exact f.any
theorem store_dict {A:Around} {E:Value→Shared→Prop} {s:Shared} {dd:Addr} {es:List DictEntry} {n:Nat} {fs:List (Str×Value)} {name:Str} {v:Value} {tk:Tok} {Q:Fin→Shared→Prop}
  (D:s.heap.get? dd=some (dictOf es n)) (f:FS w.params es fs) (hl:fs.length≤100)
  (hq:∀ h',(∀ b o,b≠dd→s.heap.get? b=some o→h'.get? b=some o)→h'.get? dd=some (dictOf (putL name (PyData.keyHash w.params name) (.str name s.toks) v es) (putN name es n))→Q (.done (.ret .none)) {s with heap:=h',toks:=s.toks+1}) :
  wpAny (model pw w) A (Builtin.ObjectAttr.storeInDict dd (.str name tk) name v) Q E s:=by
 unfold Builtin.ObjectAttr.storeInDict
 refine wpAny_bind (wpAny_pure (wpAny_bind ?_))
 unfold nsSet
 refine wpAny_bind (wpAny_bind (wpAny_askSetting (wpAny_pure (wpAny_bind (wpAny_mkText (wpAny_bind (wpAny_loadPart D ?_)))))))
 dsimp only
 have c:(!es.toArray.any (·.key.isStr name)&&es.toArray.any (·.refKey))=false:=by rw [f.refKey,Bool.and_false]
 rw [aRefKeyMayBeTheName_at,c]
 have hne:(Obj.putName name (PyData.keyHash w.params name) (.str name s.toks) v (dictOf es n)).isFreed=false:=by rw [putName_dict];rfl
 have D':=Heap.get?_update_self (Obj.putName name (PyData.keyHash w.params name) (.str name s.toks) v) D hne
 rw [putName_dict] at D'
 refine wpAny_updatePart D ?_
 have hlen:(putL name (PyData.keyHash w.params name) (.str name s.toks) v es).length≤101:=by
  have:∀ es:List DictEntry,(putL name (PyData.keyHash w.params name) (.str name s.toks) v es).length≤es.length+1:=by
   intro es
   induction es with
   | nil=>simp [putL]
   | cons e r ih=>unfold putL;split<;>simp<;>omega
  have h2:=this es
  rw [f.length] at h2
  omega
 refine wpAny_bind (wpAny_lookBehind D' (pastItsLine_dict (by rw [List.size_toArray,sizeLine_eq];exact q1 ‹_›)) ?_)
 exact wpAny_pure (hq _ (fun b o hb e=>(Heap.get?_update_other _ _ (Ne.symm hb)).trans e) D')
structure StoreOK (P:Params) (C:Addr) (name:Str):Prop where
 sa:findIn (KK P) (.ref C) "__setattr__" = some (some (.builtin "object.__setattr__"))
 tk:takerIn (KK P) C name=some none
 cls:∃ cd,clsIn (KK P) C=some cd∧cd.hasDict=true∧cd.mro.isEmpty=false∧cd.mro.contains (.type "object")=true∧∀ self,refuseLoop self "__setattr__" cd.mro=pure ()
theorem osa_open' {A:Around} {R:Result→Shared→Prop} {s:Shared} {x C:Addr} {ox:Obj} {od:Option Obj} {name:Str} {tk:Tok} {v:Value} (X:(KK w.params).In s.heap) (I:InstAt s.heap x ox C od) (O:StoreOK w.params C name)
  (h:∀ b,wpAny (model pw w) A.in1 (Builtin.ObjectAttr.storeInOwnDict (.ref x) (.ref C) (.str name tk) name v b)
   (fun fin s'=>match fin with | .done f=>R (.ok f) s' | .again c'=>c'.quiet=true∧codeAny (model pw w) A c' R s') (fun e s'=>R (.error e) s') s) :
  codeAny (model pw w) A (.call (.builtin "object.__setattr__") ⟨[.ref x,.str name tk,v],[]⟩) R s:=by
 have SF:=PySem.F.store_object
 obtain ⟨cd,hc,hd,ne,hob,ho⟩:=O.cls
 have sub:Looks (model pw w) s.heap (isInstance (.ref x) (.type "object")) true:=I.type.andThen (looks_mroIn X (by unfold mroIn;rw [hc,Option.bind_some,if_neg (by rw [ne];decide),hob]))
 refine codeAny_call_builtin SF.slot.plain SF.entry (@check_slot (model pw w) _ _ s "object.__setattr__" "object" "__setattr__" (.ref x) [.str name tk,v] [] _ SF.kind SF.split sub (SF.args (.ref x) (.str name tk) v) ?_)
 obtain ⟨attr,ha,hr⟩:=Option.bind_eq_some_iff.mp O.tk
 have hm:Looks (model pw w) s.heap (mroOf (.ref C)) cd.mro:=(looks_clsIn X hc).andThen .now
 have L3:Looks (model pw w) s.heap (Builtin.ObjectAttr.storeTaker? attr) none:=by
  cases attr with
  | none=>exact .now
  | some a=>
   obtain ⟨b,hb,e⟩:=Option.map_eq_some_iff.mp hr
   refine (looks_takesIn X hb).andThen ?_
   cases b with
   | true=>cases e
   | false=>exact .now
 rw [osa_eq,refuse_eq]
 refine wpAny_bind (wpAny_bind (I.type.here (wpAny_bind (hm.here ?_))))
 rw [ho]
 refine wpAny_pure (wpAny_bind (I.type.here (wpAny_bind ((looks_findIn X ha).here (wpAny_bind (L3.here ?_))))))
 exact h _
theorem set_inst {A:Around} {E:Value→Shared→Prop} {s:Shared} {x C dd:Addr} {ox:Obj} {es:List DictEntry} {n:Nat} {fs:List (Str×Value)} {name:Str} {v:Value} {Q:Unit→Shared→Prop}
  (X:(KK w.params).In s.heap) (hx:s.heap.get? x=some ox) (hC:ox.cls=.ref C) (hn:notCls ox=true) (hod:ox.dict=some dd) (D:s.heap.get? dd=some (dictOf es n)) (f:FS w.params es fs) (hl:fs.length≤100) (hnew:look fs name=none) (O:StoreOK w.params C name)
  (hq:∀ h' tk es' n',(∀ b o,b≠dd→s.heap.get? b=some o→h'.get? b=some o)→h'.get? dd=some (dictOf es' n')→FS w.params es' (fs++[(name,v)])→Q () {s with heap:=h',toks:=tk}) :
  wpAny (model pw w) A (setAttr (.ref x) name v) Q E s:=by
 have I:InstAt s.heap x ox C (some (dictOf es n)):=⟨hx,hC,hn,by rw [hod];exact D⟩
 refine set_plain X I O.sa (osa_open' (s:={s with toks:=s.toks+1}) X I O fun b=>?_)
 obtain ⟨cd,hc,hd,_⟩:=O.cls
 obtain ⟨oc,odi,oda,osl⟩:=ox
 dsimp only at hC hod
 subst hC hod
 unfold Builtin.ObjectAttr.storeInOwnDict
 refine wpAny_bind (wpAny_pure (wpAny_bind (wpAny_bind (wpAny_loadPart hx (wpAny_bind (Looks.here (s:={s with toks:=s.toks+1}) (looks_clsIn X hc) ?_))))))
 rw [hd]
 refine wpAny_pure (a:=some dd) ?_
 refine store_dict (s:={s with toks:=s.toks+1}) D f hl fun h' k D'=>?_
 exact hq _ _ _ _ k D' (f.put hnew)
theorem set_instN {A:Around} {E:Value→Shared→Prop} {s:Shared} {x C:Addr} {vs:Array Value} {sl:Array (Option Value)} {name:Str} {v:Value} {Q:Unit→Shared→Prop}
  (X:(KK w.params).In s.heap) (hx:s.heap.get? x=some ⟨.ref C,none,.fields vs,sl⟩) (O:StoreOK w.params C name)
  (hq:∀ h' tk dd es' n',(∀ b o,b≠x→s.heap.get? b=some o→h'.get? b=some o)→s.heap.get? dd=none→h'.get? x=some ⟨.ref C,some dd,.fields vs,sl⟩→h'.get? dd=some (dictOf es' n')→FS w.params es' [(name,v)]→Q () {s with heap:=h',toks:=tk}) :
  wpAny (model pw w) A (setAttr (.ref x) name v) Q E s:=by
 have I:InstAt s.heap x ⟨.ref C,none,.fields vs,sl⟩ C none:=⟨hx,rfl,rfl,trivial⟩
 refine set_plain X I O.sa (osa_open' (s:={s with toks:=s.toks+1}) X I O fun b=>?_)
 obtain ⟨cd,hc,hd,_⟩:=O.cls
 unfold Builtin.ObjectAttr.storeInOwnDict
 refine wpAny_bind (wpAny_pure (wpAny_bind (wpAny_bind (wpAny_loadPart hx (wpAny_bind (Looks.here (s:={s with toks:=s.toks+1}) (looks_clsIn X hc) ?_))))))
 rw [hd]
 have hx₁:=Heap.get?_push_of_some {cls:=.type "dict",data:=.dict #[]} hx
 have hxs:x≠s.heap.objs.size:=Nat.ne_of_lt (Heap.lt_size hx)
 have hgd:((s.heap.push {cls:=.type "dict",data:=.dict #[]}).update x fun o=>{o with dict:=some s.heap.objs.size}).get? s.heap.objs.size
   = some (dictOf [] 0):=(Heap.get?_update_other _ _ hxs).trans (Heap.get?_push_at rfl rfl)
 have hx':((s.heap.push {cls:=.type "dict",data:=.dict #[]}).update x fun o=>{o with dict:=some s.heap.objs.size}).get? x=some ⟨.ref C,some s.heap.objs.size,.fields vs,sl⟩:=
  Heap.get?_update_self _ hx₁ rfl
 show wpAny _ _ (do
  let d←alloc {cls:=.type "dict",data:=.dict #[]}
  update x fun o=>{o with dict:=some d}
  dictMade (.ref C) x d) _ _ _
 refine wpAny_bind (wpAny_alloc (wpAny_bind (wpAny_update hx₁ (wpAny_pure ?_))))
 refine store_dict (s:={s with heap:=(s.heap.push {cls:=.type "dict",data:=.dict #[]}).update x fun o=>{o with dict:=some s.heap.objs.size},toks:=s.toks+1}) (fs:=[]) hgd .nil (by simp) fun h' k D'=>?_
 exact hq h' _ s.heap.objs.size _ _ (fun b o hb e=>k b o (Nat.ne_of_lt (Heap.lt_size e)) ((Heap.get?_update_other _ _ (Ne.symm hb)).trans (Heap.get?_push_of_some _ e))) (fresh_size _) (k _ _ hxs hx') D' (FS.put .nil rfl)
end Mine
end
section
namespace Mine
variable {w:World} {env:Env} {n:Nat} {N:List Addr} {ρ:Rho}
noncomputable def feFd:FuncData:={name:="__init__",qualname:="FinderError.__init__",params:=(methAt 2 0).1,body:=.stmts (methAt 2 0).2.1,scope:=(methAt 2 0).2.2,globals:=3,closure:=[("__class__",25)],defaults:=.none,kwdefaults:=.none,doc:=.none,pyModule:=(.str "relfinder.errors" 194),annotations:=none,code:=(.ref 36),closureTuple:=(.ref 30),builtins:=0}
noncomputable def sfFd:FuncData:={name:="__init__",qualname:="SpotFault.__init__",params:=(methAt 3 0).1,body:=.stmts (methAt 3 0).2.1,scope:=(methAt 3 0).2.2,globals:=3,closure:=[("__class__",54)],defaults:=.none,kwdefaults:=.none,doc:=.none,pyModule:=(.str "relfinder.errors" 194),annotations:=none,code:=(.ref 65),closureTuple:=(.ref 59),builtins:=0}
section
variable {A:Around} {E:Value→Shared→Prop} {h:Heap} {g:Array GenState} {d:Drawn} {t:Nat} {os:OsState}
theorem ld_super {env:Env} {Q:Value→Shared→Prop} (F:HF w h) (hk:env.scope.kind=.function) (hx:env.kindOf "super" = some .globalImplicit) (hg:env.globals=mainGlobals) (hb:env.builtins=builtinsNs) (hq:Q (.type "super") ⟨h,g,d,t,os⟩) :
  wpAny (model pw w) A (loadName env "super") Q E ⟨h,g,d,t,os⟩:=by
 obtain ⟨m,hn,hm⟩:=ns_made F.K (keys3 w.params)
 obtain ⟨mb,h1,h2⟩:=F.blt
 exact ks_loadName_global hk hx (Calls.loadGlobal_builtin (hg▸hn) (hm _ _ (by rfl)) (hb▸h1) ((h2 "super" (by decide)).trans (by rfl)) hq)
theorem cls47 {P:Params}:∃ cd,clsIn (KK P) 47=some cd:=⟨_,rfl⟩
theorem cls_at {P:Params} {D:Addr} {cd:ClassData} (X:(KK P).In h) (e:clsIn (KK P) D=some cd):∃ oD,h.get? D=some oD∧oD.data=.cls cd:=by
 unfold clsIn at e
 split at e
 ·rename_i c d cd' sl ho
  cases e
  exact ⟨_,X _ _ ho,rfl⟩
 ·cases e
end
theorem sok88 {P:Params} {name:Str} (h:takerIn (KK P) 88 name=some none):StoreOK P 88 name where
 sa:=by rfl
 tk:=h
 cls:=⟨_,rfl,rfl,rfl,by decide +kernel,fun self=>by
  have:=PySem.F.store_Exception.passes self
  show refuseLoop self "__setattr__" [.ref 88,.ref 76,.ref 47,.type "Exception",.type "BaseException",.type "object"]=_
  rw [refuseLoop_ref,refuseLoop_ref,refuseLoop_ref]
  exact this⟩
theorem c_fe {A:Around} {s:Shared} {e t0:Addr} {v:Value} {R:Result→Shared→Prop} (F:∀ h',(∀ b o,b≠e→s.heap.get? b=some o→h'.get? b=some o)→HF w h')
  (he:s.heap.get? e=some ⟨.ref 88,none,.fields #[.ref t0,.none,.none,.none,.bool false,.none],#[]⟩) (hroom:A.depth < 1000)
  (hq:∀ h' tk dd t' es' n',(∀ b o,b≠e→s.heap.get? b=some o→h'.get? b=some o)→s.heap.get? dd=none→h'.get? e=some ⟨.ref 88,some dd,.fields #[.ref t',.none,.none,.none,.bool false,.none],#[]⟩→
   h'.get? dd=some (dictOf es' n')→FS w.params es' [("what",v)]→R (.ok (.ret .none)) {s with heap:=h',toks:=tk}) :
  codeAny (model pw w) A (.call (.ref 37) ⟨[.ref e,v],[]⟩) R s:=by
 have F0:HF w s.heap:=F _ fun _ _ _ x=>x
 refine (ks_codeAny_call_defAt (fd:=feFd) (body:=(methAt 2 0).2.1) (binds:=[("self",.ref e),("what",v)]) hroom (F0.K _ _ rfl) rfl F0.nolimit (F0.codes _ (.head _)) rfl (BindsTo.of_eq rfl) (by decide +kernel)
  (by intro x hx;simp only [List.mem_cons,List.not_mem_nil,or_false] at hx;rcases hx with rfl | rfl<;>rfl) (fun h₀ hns hk=>?_))
 obtain ⟨h,g,d,t,os⟩:=s
 dsimp only at he hns hk F hq F0 ⊢
 have F1:HF w h₀:=F _ fun b o _ x=>hk b o x
 have he1:=hk _ _ he
 have hself:(fun x=>([(("self" : Str),Value.ref e),("what",v)]:List (Str×Value)).reverse.lookup x) "self" = some (.ref e):=rfl
 have hwhat:(fun x=>([(("self" : Str),Value.ref e),("what",v)]:List (Str×Value)).reverse.lookup x) "what" = some v:=rfl
 generalize (fun x=>([(("self" : Str),Value.ref e),("what",v)]:List (Str×Value)).reverse.lookup x)=m at hns hself hwhat
 generalize hL:h.objs.size=L at hns ⊢
 have hLe:L≠e:=fun q=>by
  have:=Heap.lt_size he
  rw [hL,q] at this
  exact Nat.lt_irrefl _ this
 obtain ⟨cd,hcd⟩:=cls47 (P:=w.params)
 obtain ⟨oD,hD,hDt⟩:=cls_at F1.K hcd
 refine ks_wpAt_execs_cons (ks_wpAt_Expr_any (ks_wpAt_MethodCall (ks_wpAt_super_base (cc:=36) rfl rfl rfl rfl (F1.K _ _ rfl) rfl rfl rfl (F1.K _ _ rfl) rfl rfl rfl rfl (ld_super F1 rfl rfl rfl rfl ⟨rfl,?_⟩))))
 refine wpAny_loadName_free rfl rfl rfl ⟨_,F1.K 25 _ rfl,rfl⟩ ?_
 refine wpAny_loadName_local rfl rfl hns hself ?_
 refine ks_wpAny_isType_cls hD hDt ⟨rfl,?_⟩
 refine ks_wpAny_call_super hD hDt he1 rfl (fun c e=>nomatch e) (looks_mroIn F1.K (by rfl)) fun h2 hso k2=>?_
 have F2:HF w h2:=F _ fun b o hb x=>k2 _ _ (hk _ _ x)
 refine gm_blt F2.K hso (k2 _ _ he1) rfl ?_
 generalize hq':h2.objs.size=qa
 generalize hh3:h2.push {cls:=.type "method-wrapper",data:=.fields #[.builtin "Exception.__init__",.ref e]}=h3
 have k3:∀ b o,h2.get? b=some o→h3.get? b=some o:=fun b o x=>by rw [← hh3];exact Heap.get?_push_of_some _ x
 have hqa:h3.get? qa=some {cls:=.type "method-wrapper",data:=.fields #[.builtin "Exception.__init__",.ref e]}:=by rw [← hh3,← hq'];exact Heap.get?_push_size _ rfl
 have k03:∀ b o,h.get? b=some o→h3.get? b=some o:=fun b o x=>k3 _ _ (k2 _ _ (hk _ _ x))
 have F3:HF w h3:=F _ fun b o _ x=>k03 _ _ x
 have hns3:h3.Ns L m:=by obtain ⟨o,es,ep,x,r⟩:=hns;exact ⟨o,es,ep,k3 _ _ (k2 _ _ x),r⟩
 refine callWith_of (P:=fun hh=>hh=h3) rfl (fun hh e=>⟨.machine,.inr (.inl rfl),by subst e;exact (Looks.ld (part:=none) hqa).andThen .now⟩) (Calls.evalArgs_plain (Calls.spliced_cons (wpAny_Name (wpAny_loadName_local rfl rfl hns3 hwhat (wpAny_pure ⟨rfl,?_⟩)) (by decide))))
 refine call_ei (e:=e) F3.K hqa (k03 _ _ he) fun h4 t' k4 he4=>?_
 have k04:∀ b o,b≠e→h.get? b=some o→h4.get? b=some o:=fun b o hb x=>k4 b o hb (k03 _ _ x)
 have F4:HF w h4:=F _ k04
 have hns4:h4.Ns L m:=by obtain ⟨o,es,ep,x,r⟩:=hns3;exact ⟨o,es,ep,k4 _ _ hLe x,r⟩
 refine ks_wpAt_execs_cons (ks_wpAt_Assign_Attr (_root_.PySem.wpAt_of_wpAny (wpAny_Name (wpAny_loadName_local rfl rfl hns4 hwhat (wpAny_Name (wpAny_loadName_local rfl rfl hns4 hself ?_) (by decide))) (by decide))))
 refine set_instN F4.K he4 (sok88 (by rfl)) fun h5 tk dd es' n' k5 nd hx hd hfs=>?_
 refine _root_.PySem.wpAt_of_wpAny (wpAny_execs_nil ?_)
 refine hq h5 tk dd t' es' n' (fun b o hb x=>k5 b o hb (k04 b o hb x)) ?_ hx hd hfs
 cases q:h.get? dd with
 | none=>rfl
 | some o=>
  by_cases hb:dd=e
  ·rw [hb,he4] at nd;cases nd
  ·rw [k04 _ _ hb q] at nd;cases nd
theorem cls76 {P:Params}:∃ cd,clsIn (KK P) 76=some cd:=⟨_,rfl⟩
theorem c_sf {A:Around} {s:Shared} {e t0:Addr} {v z:Value} {R:Result→Shared→Prop} (F:∀ h',(∀ b o,b≠e→s.heap.get? b=some o→h'.get? b=some o)→HF w h')
  (he:s.heap.get? e=some ⟨.ref 88,none,.fields #[.ref t0,.none,.none,.none,.bool false,.none],#[]⟩) (hroom:A.depth < 990)
  (hq:∀ h' tk dd t' es' n',(∀ b o,b≠e→s.heap.get? b=some o→h'.get? b=some o)→s.heap.get? dd=none→h'.get? e=some ⟨.ref 88,some dd,.fields #[.ref t',.none,.none,.none,.bool false,.none],#[]⟩→
   h'.get? dd=some (dictOf es' n')→FS w.params es' [("what",v),("spot",z)]→R (.ok (.ret .none)) {s with heap:=h',toks:=tk}) :
  codeAny (model pw w) A (.call (.ref 66) ⟨[.ref e,v,z],[]⟩) R s:=by
 have F0:HF w s.heap:=F _ fun _ _ _ x=>x
 refine (ks_codeAny_call_defAt (fd:=sfFd) (body:=(methAt 3 0).2.1) (binds:=[("self",.ref e),("what",v),("spot",z)]) (by show A.depth < 1000;exact q1 ‹_›) (F0.K _ _ rfl) rfl F0.nolimit (F0.codes _ mh1) rfl (BindsTo.of_eq rfl) (by decide +kernel)
  (by intro x hx;simp only [List.mem_cons,List.not_mem_nil,or_false] at hx;rcases hx with rfl | rfl | rfl<;>rfl) (fun h₀ hns hk=>?_))
 obtain ⟨h,g,d,t,os⟩:=s
 dsimp only at he hns hk F hq F0 ⊢
 have F1:HF w h₀:=F _ fun b o _ x=>hk b o x
 have he1:=hk _ _ he
 have hself:(fun x=>([(("self" : Str),Value.ref e),("what",v),("spot",z)]:List (Str×Value)).reverse.lookup x) "self" = some (.ref e):=rfl
 have hwhat:(fun x=>([(("self" : Str),Value.ref e),("what",v),("spot",z)]:List (Str×Value)).reverse.lookup x) "what" = some v:=rfl
 have hspot:(fun x=>([(("self" : Str),Value.ref e),("what",v),("spot",z)]:List (Str×Value)).reverse.lookup x) "spot" = some z:=rfl
 generalize (fun x=>([(("self" : Str),Value.ref e),("what",v),("spot",z)]:List (Str×Value)).reverse.lookup x)=m at hns hself hwhat hspot
 generalize hL:h.objs.size=L at hns ⊢
 have hLe:L≠e:=fun q=>by
  have:=Heap.lt_size he
  rw [hL,q] at this
  exact Nat.lt_irrefl _ this
 obtain ⟨cd,hcd⟩:=cls76 (P:=w.params)
 obtain ⟨oD,hD,hDt⟩:=cls_at F1.K hcd
 refine ks_wpAt_execs_cons (ks_wpAt_Expr_any (ks_wpAt_MethodCall (ks_wpAt_super_base (cc:=65) rfl rfl rfl rfl (F1.K _ _ rfl) rfl rfl rfl (F1.K _ _ rfl) rfl rfl rfl rfl (ld_super F1 rfl rfl rfl rfl ⟨rfl,?_⟩))))
 refine wpAny_loadName_free rfl rfl rfl ⟨_,F1.K 54 _ rfl,rfl⟩ ?_
 refine wpAny_loadName_local rfl rfl hns hself ?_
 refine ks_wpAny_isType_cls hD hDt ⟨rfl,?_⟩
 refine ks_wpAny_call_super hD hDt he1 rfl (fun c e=>nomatch e) (looks_mroIn F1.K (by rfl)) fun h2 hso k2=>?_
 have F2:HF w h2:=F _ fun b o hb x=>k2 _ _ (hk _ _ x)
 have hne:e≠88:=fun q=>by
  have:=F1.K 88 _ rfl
  rw [q] at he1
  rw [he1] at this
  cases this
 refine ks_wpAny_getMethod_super (K:=KK w.params) (f:=37) (l₀:=.ref 88::kfBm) (l:=[.ref 47,.type "Exception",.type "BaseException",.type "object"]) hso (looks_opaque F2.K (by rfl)) (fun A Q E s k q=>?_) (by decide +kernel) F2.K (by rfl) (F2.K 37 _ rfl) rfl hne (by decide) ?_
 ·obtain ⟨hh,gg,dd',tt,oo⟩:=s
  exact wpAny_mroOf_exc (k _ _ (F2.K 88 _ rfl)) q
 generalize hq':h2.objs.size=qa
 generalize hh3:h2.push {cls:=.type "method",data:=.fields #[.ref 37,.ref e]}=h3
 have k3:∀ b o,h2.get? b=some o→h3.get? b=some o:=fun b o x=>by rw [← hh3];exact Heap.get?_push_of_some _ x
 have hqa:h3.get? qa=some {cls:=.type "method",data:=.fields #[.ref 37,.ref e]}:=by rw [← hh3,← hq'];exact Heap.get?_push_size _ rfl
 have k03:∀ b o,h.get? b=some o→h3.get? b=some o:=fun b o x=>k3 _ _ (k2 _ _ (hk _ _ x))
 have F3:HF w h3:=F _ fun b o _ x=>k03 _ _ x
 have hns3:h3.Ns L m:=by obtain ⟨o,es,ep,x,r⟩:=hns;exact ⟨o,es,ep,k3 _ _ (k2 _ _ x),r⟩
 refine callWith_of (P:=fun hh=>hh=h3) rfl (fun hh e=>keeps_M (K:=KK w.params) (f:=37) (self:=.ref _) (by rfl) hh (by subst e;exact ⟨hqa,F3.K⟩)) (Calls.evalArgs_plain (Calls.spliced_cons (wpAny_Name (wpAny_loadName_local rfl rfl hns3 hwhat (wpAny_pure ⟨rfl,?_⟩)) (by decide))))
 refine wpAny_call (ks_codeAny_call_bound hqa (c_fe (e:=e) (fun h' k'=>F _ fun b o hb x=>k' b o hb (k03 _ _ x)) (k03 _ _ he) (by show A.depth+1 < 1000;omega) fun h4 tk dd t' es' n' k4 nd he4 hd hfs=>?_))
 have k04:∀ b o,b≠e→h.get? b=some o→h4.get? b=some o:=fun b o hb x=>k4 b o hb (k03 _ _ x)
 have F4:HF w h4:=F _ k04
 have hns4:h4.Ns L m:=by obtain ⟨o,es,ep,x,r⟩:=hns3;exact ⟨o,es,ep,k4 _ _ hLe x,r⟩
 have nd0:h.get? dd=none:=by
  cases q:h.get? dd with
  | none=>rfl
  | some o=>rw [k03 _ _ q] at nd;cases nd
 have hde:dd≠e:=fun q=>by rw [q,he] at nd0;cases nd0
 refine ks_wpAt_execs_cons (ks_wpAt_Assign_Attr (_root_.PySem.wpAt_of_wpAny (wpAny_Name (wpAny_loadName_local rfl rfl hns4 hspot (wpAny_Name (wpAny_loadName_local rfl rfl hns4 hself ?_) (by decide))) (by decide))))
 refine set_inst F4.K he4 rfl rfl rfl hd hfs (by simp) (by rfl) (sok88 (by rfl)) fun h5 tk5 es5 n5 k5 hd5 hfs5=>?_
 refine _root_.PySem.wpAt_of_wpAny (wpAny_execs_nil ?_)
 refine hq h5 tk5 dd t' es5 n5 (fun b o hb x=>k5 b o (fun q=>by rw [q,nd0] at x;cases x) (k04 b o hb x)) nd0 (k5 _ _ (Ne.symm hde) he4) hd5 hfs5
end Mine
end
section
namespace Mine
variable {w:World} {env:Env} {n:Nat} {N:List Addr} {ρ:Rho}
theorem raise_kf {M:Model} {A:Around} {E:Value→Shared→Prop} {s:Shared} {x:Sem Value} {Q:Flow→Shared→Prop} (hh:A.handled=none)
  (h:wpAny M A x (fun v s₁=>∃ e dd sl t,v=.ref e∧Kf s₁.heap∧s₁.heap.get? e=some ⟨.ref 88,dd,.fields #[.ref t,.none,.none,.none,.bool false,.none],sl⟩∧E (.ref e) s₁) E s) :
  wpAny M A (raiseStmt env (some x) none) Q E s:=by
 have hcB:(Value.ref 88::kfBm).contains (.type "BaseException")=true:=by decide +kernel
 unfold raiseStmt
 refine wpAny_bind (wpAny_mono h (fun v s₁ h₁=>?_) fun _ _ x=>x)
 obtain ⟨e,dd,sl,t,rfl,⟨nm,q,N,bs,hdct,sn,sub,ab,col,dd',k0,k1,k2,k3,k5,hC⟩,he,hE⟩:=h₁
 obtain ⟨hp,g,d,tk,os⟩:=s₁
 repeat (first | with_reducible refine wpAny_loadPart_at he ?_ | with_reducible refine wpAny_loadPart_at hC ?_ | (with_reducible refine wpAny_isSubtype_exc hC ?_;rw [hcB]) | wp_step)
 exact wpAny_raiseNew_none hh hE
theorem made_kf {A:Around} {E:Value→Shared→Prop} {s:Shared} {v z:Value} {Q:Value→Shared→Prop} (F:HF w s.heap) (hF:∀ h',(∀ b o,s.heap.get? b=some o→h'.get? b=some o)→HF w h') (hroom:A.depth < 980)
  (hq:∀ h' tk e dd t' es' n',(∀ b o,s.heap.get? b=some o→h'.get? b=some o)→s.heap.get? e=none→s.heap.get? dd=none→h'.get? e=some ⟨.ref 88,some dd,.fields #[.ref t',.none,.none,.none,.bool false,.none],#[]⟩→
   h'.get? dd=some (dictOf es' n')→FS w.params es' [("what",v),("spot",z)]→Q (.ref e) {s with heap:=h',toks:=tk}) :
  wpAny (model pw w) A (call (.ref 88) [v,z]) Q E s:=by
 obtain ⟨h,g,d,t,os⟩:=s
 refine kf_call F.K (fun h1 e hm=>wpAny_call ?_) (by rw [sizeLine_eq];simp)
 obtain ⟨t0,he,ht0,ht1⟩:=hm.there
 have hne:=hm.new
 have kp:∀ h':Heap,(∀ b o,b≠e→h1.get? b=some o→h'.get? b=some o)→∀ b o,h.get? b=some o→h'.get? b=some o:=fun h' k b o x=>k b o (fun q=>by rw [q,hne] at x;cases x) (hm.keeps _ _ x)
 refine c_sf (fun h' k=>hF h' (kp h' k)) he (by show A.depth+1 < 990;omega) fun h2 tk dd t' es' n' k2 nd he2 hd hfs=>⟨rfl,?_⟩
 have nd0:h.get? dd=none:=by
  cases q:h.get? dd with
  | none=>rfl
  | some o=>have:=hm.keeps _ _ q;rw [nd] at this;cases this
 exact hq h2 tk e dd t' es' n' (kp h2 k2) hne nd0 he2 hd hfs
theorem RX.go {A:Around} {X:Int→Prop} {G:Fz} {s s':Shared} {E:Value→Shared→Prop} {z:Int} {e dd t':Addr} {es:List DictEntry} {n':Nat} {fs:List (Str×Value)} {tk:Tok} (r:RX w A N X s E) (hz:X z) (i:Inn G s.heap) (k:Keeps s s')
  (he0:s.heap.get? e=none) (hd0:s.heap.get? dd=none) (he:s'.heap.get? e=some ⟨.ref 88,some dd,.fields #[.ref t',.none,.none,.none,.bool false,.none],#[]⟩)
  (hd:s'.heap.get? dd=some (dictOf es n')) (hfs:FS w.params es fs) (hsp:look fs "spot" = some (.int z tk)):E (.ref e) s':=by
 obtain ⟨h0,fr,l,h1,h2,h3⟩:=r z hz
 have y:Step G s [] G s':=Step.of_keeps i k
 have h2':=h2.step y fun _ h=>nomatch h
 have none0:∀ b,s.heap.get? b=none→h0.get? b=none:=fun b hb=>by
  cases q:h0.get? b with
  | none=>rfl
  | some o=>obtain ⟨sl,x,_⟩:=h2.keep b o q (fun h=>nomatch h);rw [hb] at x;cases x
 refine h3 e dd s' ?_ {ff:=h2'.ff,fn:=fun L hL=>⟨(h2'.fn L hL).1,fun q=>?_⟩,ex:=⟨_,_,he,by simp,.inl ⟨rfl,rfl⟩⟩,sp:=⟨es,n',fs,tk,hd,hfs,hsp⟩,ne:=none0 _ he0,nd:=none0 _ hd0,keep:=h2'.keep}
 ·obtain ⟨h,tk,e⟩:=y.same
  exact ⟨h,tk,e⟩
 ·obtain ⟨_,o,ho,_⟩:=h2.ff.mem hL
  rw [q,hd0] at ho;cases ho
theorem st_raise {np cpos pos:Pos} {e1 e2:PySem.Expr} {rest:List Stmt} {A:Around} {G₀ G:Fz} {s₀ s:Shared} {M:List Addr} {Q:Flow→Shared→Prop} {E:Value→Shared→Prop} {X:Int→Prop} {z:Int} {P:D→Prop} (a:AOK n A) (c:St w env G₀ s₀ M ρ G s) (r:RX w A N X s E) (hz:X z)
  (hx:env.kindOf "KindFault" = some .globalImplicit) (hk:env.scope.kind=.function) (hg:env.globals=mainGlobals) (h1:Ev w env n [] ρ e1 P) (hP:∀ d,P d→∃ x,d=.str x) (h2:Ev w env n [] ρ e2 (fun d=>d=.int z))
  (ht:backTo cpos (starEach [e1,e2] env)=[(false,eval e1 env),(false,eval e2 env)]:=by rfl) :
  wpAny (model pw w) A (execs (.Raise (some (.Call (.Name "KindFault" np) [e1,e2] [] cpos)) none pos::rest) env) Q E s:=by
 refine wpAny_execs_cons ?_
 rw [arm_exec_Raise]
 refine wpAny_bind (wpAny_standAt (raise_kf a.2.2 (wpAny_bind (wpAny_mono (wpAny_Call_ofName ((evv_glob (v:=.ref 88) (n:=n) (N:=[]) (ρ:=ρ) hx (by rfl) hk hg) A G₀ s₀ M G s _ _ a noN c fun f G1 s1 y1 c1 e=>?_)) (fun v s₃ h₃=>wpAny_bind (wpAny_standAt (wpAny_pure h₃))) fun _ _ x=>x))))
 subst e
 rw [ht]
 refine callWith_of (P:=fun h=>(KK w.params).In h) rfl (fun h X=>keeps_K (K:=KK w.params) (f:=.ref 88) (by rfl) h X) (Calls.evalArgs_plain (Calls.spliced_cons (h1 A G₀ s₀ M G1 s1 _ _ a noN c1 fun v1 G2 s2 y2 c2 ⟨d1,r1,p1⟩=>Calls.spliced_cons (h2 A G₀ s₀ M G2 s2 _ _ a noN c2 fun v2 G3 s3 y3 c3 ⟨d2,r2,p2⟩=>wpAny_pure ⟨c3.bs.K,?_⟩))))
 subst p2
 obtain ⟨x,rfl⟩:=hP d1 p1
 obtain ⟨_,rfl⟩:=r2.inv
 obtain ⟨_,rfl⟩:=r1.inv
 rename_i tz _ tx
 refine made_kf c3.bs (fun h' k=>c3.HFG h' fun a o e=>k _ _ (c3.step.inn a o e)) (by have:=a.1;omega) fun h' tk e dd t' es' n' k he0 hd0 he hd hfs=>⟨e,_,_,_,rfl,kf_of (c3.bs.K.keeps k),he,?_⟩
 exact (r.step ((y1.trans (y2.trans y3 fun _ h=>nomatch h) fun _ h=>nomatch h).mono (N':=N) fun _ h=>nomatch h)).go hz c3.step.inn ⟨h',tk,rfl,k⟩ he0 hd0 he hd hfs rfl
end Mine
end
section
namespace Mine
variable {w:World} {env:Env} {n:Nat} {N:List Addr} {ρ:Rho}
noncomputable def Sh (d:D):Prop:=∃ x,d=.str x∧x.length≤1000
theorem ev_fmtS {e:PySem.Expr} {pos:Pos} (h:Ev w env n N ρ e Sh):Ev w env n N ρ (.FormattedValue e (-1) none pos) Sh:=fun A G₀ s₀ M G s Q E a b c k=>
 wpAny_FormattedValue_plain (h A G₀ s₀ M G s _ E a b c fun v G1 s1 y1 c1 ⟨d,r,x,e,hx⟩=>by
  subst e
  obtain ⟨_,rfl⟩:=r.inv
  exact wpAny_formatField_str (k _ _ _ y1 c1 ⟨_,.str x _,x,rfl,hx⟩) (k _ _ _ (y1.trans (Step.tk (N:=[]) y1.inn _) fun _ h=>nomatch h) (c1.toks _) ⟨_,.str x _,x,rfl,hx⟩) (by rw [sizeLine_eq];exact q1 ‹_›))
theorem ev_fmtI {e:PySem.Expr} {pos:Pos} (h:Ev w env n N ρ e (fun d=>∃ i:Nat,d=.int (i:Int)∧i < 20)):Ev w env n N ρ (.FormattedValue e (-1) none pos) Sh:=fun A G₀ s₀ M G s Q E a b c k=>
 wpAny_FormattedValue_plain (h A G₀ s₀ M G s _ E a b c fun v G1 s1 y1 c1 ⟨d,r,x,e,hx⟩=>by
  subst e
  obtain ⟨_,rfl⟩:=r.inv
  have h1:∀ x:Nat,x < 20→(Str.ofString (toString (x:Int))).length≤1000:=by decide +kernel
  have h2:∀ x:Nat,x < 20→((x:Int)).natAbs.log2 < 1920:=by decide +kernel
  exact wpAny_formatField_int (h2 x hx) (k _ _ _ (y1.trans (Step.tk (N:=[]) y1.inn _) fun _ h=>nomatch h) (c1.toks _) ⟨_,.str _ _,_,rfl,h1 x hx⟩))
theorem ev_strS {x:Str} {k pos} (h:x.length≤1000):Ev w env n N ρ (.Constant (.str x) k pos) Sh:=ev_str.mono fun _ _ _ _ _ ⟨d,r,e⟩=>⟨d,r,x,e,h⟩
theorem joins_of {A:Around} {G₀:Fz} {s₀:Shared} {M:List Addr} {E:Value→Shared→Prop} (a:AOK n A) (hN:∀ a∈N,a∈M) (parts:List PySem.Expr) (acc:Str) (G:Fz) (s:Shared) (Q:Str→Shared→Prop) (h:∀ e∈parts,Ev w env n N ρ e Sh) (hl:acc.length+1000 * parts.length≤100000) (c:St w env G₀ s₀ M ρ G s)
  (k:∀ out G' s',out.length≤100000→Step G s N G' s'→St w env G₀ s₀ M ρ G' s'→Q out s'):Joins (model pw w) A E (evalEach parts env) acc Q s:=by
 induction parts generalizing acc G s with
 | nil=>exact k acc G s hl (Step.refl c.step.inn) c
 | cons e r ih=>
  show wpAny _ _ _ _ _ _
  refine h e (.head _) A G₀ s₀ M G s _ E a hN c fun v G1 s1 y1 c1 ⟨d,rd,x,e1,hx⟩=>?_
  subst e1
  obtain ⟨_,rfl⟩:=rd.inv
  have h1:(acc++x).length=acc.length+x.length:=strLen_append ..
  have hq:acc.length+x.length+1000 * r.length≤100000:=by
   rw [List.length_cons] at hl;omega
  refine ⟨x,_,rfl,by rw [h1,sizeLine_eq];exact Nat.le_trans (Nat.le_of_add_right_le hq) (by decide),?_⟩
  exact ih (acc++x) G1 s1 (fun e he=>h e (.tail _ he)) (by rw [h1];exact hq) c1 fun out G' s' ho y z=>k out G' s' ho (y1.trans y fun q hq=>.inl hq) z
theorem ev_fstr {e1 e2:PySem.Expr} {r:List PySem.Expr} {pos:Pos} (h:∀ e∈e1::e2::r,Ev w env n N ρ e Sh) (hl:r.length≤10:=by decide):Ev w env n N ρ (.JoinedStr (e1::e2::r) pos) (fun d=>∃ x,d=.str x):=fun A G₀ s₀ M G s Q E a b c k=>
 wpAny_JoinedStr (joins_of a b _ Str.empty G s _ h (by have:Str.empty.length=0:=rfl;simp [this];omega) c fun out G' s' ho y z=>⟨by rw [sizeLine_eq];exact q1 ‹_›,k _ _ _ (y.trans (Step.tk (N:=[]) y.inn _) fun _ h=>nomatch h) (z.toks _) ⟨_,.str _ _,_,rfl⟩⟩)
theorem all2 {P:PySem.Expr→Prop} {a b:PySem.Expr} (h1:P a) (h2:P b):∀ e∈[a,b],P e:=fa_cons h1 (fa_cons h2 fa_nil)
theorem all3 {P:PySem.Expr→Prop} {a b c:PySem.Expr} (h1:P a) (h2:P b) (h3:P c):∀ e∈[a,b,c],P e:=fa_cons h1 (fa_cons h2 (fa_cons h3 fa_nil))
theorem all4 {P:PySem.Expr→Prop} {a b c d:PySem.Expr} (h1:P a) (h2:P b) (h3:P c) (h4:P d):∀ e∈[a,b,c,d],P e:=fa_cons h1 (fa_cons h2 (fa_cons h3 (fa_cons h4 fa_nil)))
end Mine
end
section
namespace Mine
variable {w:World} {env:Env} {n:Nat} {N:List Addr} {ρ:Rho}
inductive Rpl (H:Option Str×Kd→Prop):List Addr→Rho→Rho→Prop
 | nil:Rpl H [] [] []
 | keep {q:Option Str×Kd} {C:List Addr} {ρ ρ':Rho}:Rpl H C ρ ρ'→Rpl H C (q::ρ) (q::ρ')
 | chg {x:Option Str} {K K':Kd} {C:List Addr} {ρ ρ':Rho}:K'.fp=K.fp→K'.ow=K.ow→H (x,K')→Rpl H C ρ ρ'→Rpl H (K.ow++C) ((x,K)::ρ) ((x,K')::ρ')
theorem Rpl.rest {H:Option Str×Kd→Prop} {ρ:Rho}:Rpl H [] ρ ρ:=by
 induction ρ with
 | nil=>exact .nil
 | cons _ _ ih=>exact .keep ih
theorem Rpl.src {H:Option Str×Kd→Prop} {C:List Addr} {ρ ρ':Rho} (r:Rpl H C ρ ρ'):∀ a∈C,∃ q∈ρ,a∈q.2.ow:=by
 induction r with
 | nil=>exact fun _ h=>nomatch h
 | keep _ ih=>exact fun a ha=>let ⟨q,h1,h2⟩:=ih a ha;⟨q,.tail _ h1,h2⟩
 | chg _ _ _ _ ih=>exact fun a ha=>(List.mem_append.mp ha).elim (fun h=>⟨_,.head _,h⟩) fun h=>let ⟨q,h1,h2⟩:=ih a h;⟨q,.tail _ h1,h2⟩
theorem Rpl.mem {H:Option Str×Kd→Prop} {C:List Addr} {ρ ρ':Rho} (r:Rpl H C ρ ρ'):ρ.Pairwise Sep→∀ q'∈ρ',∃ q∈ρ,q'.1=q.1∧q'.2.fp=q.2.fp∧q'.2.ow=q.2.ow∧(H q'∨(q'=q∧∀ a∈C,a∉q.2.fp)):=by
 induction r with
 | nil=>exact fun _ _ h=>nomatch h
 | @keep q C ρ ρ' r ih=>
  intro hp q' hq'
  obtain ⟨h1,h2⟩:=List.pairwise_cons.mp hp
  rcases List.mem_cons.mp hq' with e | hq'
  ·subst e
   refine ⟨_,.head _,rfl,rfl,rfl,.inr ⟨rfl,fun a ha hm=>?_⟩⟩
   obtain ⟨p,hp1,hp2⟩:=r.src a ha
   exact (h1 p hp1).2.2 a hp2 hm
  ·obtain ⟨p,e1,e2⟩:=ih h2 q' hq'
   exact ⟨p,.tail _ e1,e2⟩
 | @chg x K K' C ρ ρ' hf ho hH r ih=>
  intro hp q' hq'
  obtain ⟨h1,h2⟩:=List.pairwise_cons.mp hp
  rcases List.mem_cons.mp hq' with e | hq'
  ·subst e
   exact ⟨_,.head _,rfl,hf,ho,.inl hH⟩
  ·obtain ⟨p,e1,e2,e3,e4,e5⟩:=ih h2 q' hq'
   refine ⟨p,.tail _ e1,e2,e3,e4,e5.imp id fun ⟨e6,e7⟩=>⟨e6,fun a ha=>(List.mem_append.mp ha).elim (fun h=>(h1 p e1).2.1 a h) fun h=>e7 a h⟩⟩
theorem Rpl.sep {H:Option Str×Kd→Prop} {C:List Addr} {ρ ρ':Rho} (r:Rpl H C ρ ρ'):ρ.Pairwise Sep→ρ'.Pairwise Sep:=by
 have key:∀ {C:List Addr} {ρ ρ':Rho},Rpl H C ρ ρ'→∀ q'∈ρ',∃ q∈ρ,q'.1=q.1∧q'.2.fp=q.2.fp∧q'.2.ow=q.2.ow:=fun r=>by
  induction r with
  | nil=>exact fun _ h=>nomatch h
  | keep _ ih=>exact fun q hq=>(List.mem_cons.mp hq).elim (fun e=>⟨_,.head _,by rw [e],by rw [e],by rw [e]⟩) fun h=>let ⟨p,h1,h2⟩:=ih q h;⟨p,.tail _ h1,h2⟩
  | chg hf ho _ _ ih=>exact fun q hq=>(List.mem_cons.mp hq).elim (fun e=>⟨_,.head _,by rw [e],by rw [e];exact hf,by rw [e];exact ho⟩) fun h=>let ⟨p,h1,h2⟩:=ih q h;⟨p,.tail _ h1,h2⟩
 induction r with
 | nil=>exact fun h=>h
 | keep r ih=>
  intro hp
  obtain ⟨h1,h2⟩:=List.pairwise_cons.mp hp
  refine List.pairwise_cons.mpr ⟨fun q hq=>?_,ih h2⟩
  obtain ⟨p,e1,e2,e3,e4⟩:=key r q hq
  obtain ⟨s1,s2,s3⟩:=h1 p e1
  exact ⟨by rw [e2];exact s1,by rw [e3];exact s2,by rw [e4];exact s3⟩
 | chg hf ho _ r ih=>
  intro hp
  obtain ⟨h1,h2⟩:=List.pairwise_cons.mp hp
  refine List.pairwise_cons.mpr ⟨fun q hq=>?_,ih h2⟩
  obtain ⟨p,e1,e2,e3,e4⟩:=key r q hq
  obtain ⟨s1,s2,s3⟩:=h1 p e1
  exact ⟨by rw [e2];exact s1,by rw [e3];show ∀ a∈Kd.ow _,_;rw [ho];exact s2,by rw [e4];show ∀ a∈p.2.ow,a∉Kd.fp _;rw [hf];exact s3⟩
theorem St.rpl {G₀ G G':Fz} {s₀ s s':Shared} {M C:List Addr} {ρ':Rho} (x:St w env G₀ s₀ M ρ G s) (y:Step G s N G' s') (r:Rpl (Holds env G' s'.heap) C ρ ρ') (hC:∀ a∈N,a∈C):St w env G₀ s₀ M ρ' G' s':=by
 have own:∀ a∈N,∃ q∈ρ,a∈q.2.ow:=fun a ha=>r.src a (hC a ha)
 have at_:∀ a∈N,a≠env.locals∧(∀ y cc,env.cells.lookup y=some cc→a≠cc)∧(a∈M∨s₀.heap.get? a=none):=fun a ha=>by
  obtain ⟨q,hq,ho⟩:=own a ha
  obtain ⟨h1,h2,h3⟩:=x.ows q hq a ho
  exact ⟨(x.fps q hq a h1).2.1,(x.fps q hq a h1).2.2,h3⟩
 have hL:env.locals∉N:=fun h=>(at_ _ h).1 rfl
 have hCe:∀ y c,env.cells.lookup y=some c→c∉N:=fun y c hm h=>(at_ _ h).2.1 y c hm rfl
 have x0:St w env G₀ s₀ M [] G' s':=(x.sub (List.nil_sublist _)).turn y (fun a ha=>(at_ a ha).2.2) hL hCe fun q hq=>nomatch hq
 exact {x0 with
  vars:=fun q' hq'=>by
   obtain ⟨q,h1,h2,h3,h4,h5⟩:=r.mem x.sep q' hq'
   rcases h5 with h | ⟨rfl,h⟩
   ·exact h
   ·exact (x.vars _ h1).next y.le (fun o e=>y.keep _ _ hL e) (fun n c hm o e=>y.keep _ _ (hCe _ _ hm) e) fun a ha o e=>y.keep _ _ (fun hn=>h a (hC a hn) ha) e
  fps:=fun q' hq' a ha=>by
   obtain ⟨q,h1,h2,h3,h4,h5⟩:=r.mem x.sep q' hq'
   obtain ⟨g1,g2⟩:=x.fps q h1 a (h3▸ha)
   exact ⟨y.dom a g1,g2⟩
  ows:=fun q' hq' a ha=>by
   obtain ⟨q,h1,h2,h3,h4,h5⟩:=r.mem x.sep q' hq'
   obtain ⟨g1,g2,g3⟩:=x.ows q h1 a (h4▸ha)
   exact ⟨h3▸g1,y.out g2 (x.fps q h1 a g1).1,g3⟩
  sep:=r.sep x.sep}
theorem DctAt.to {G G':Fz} {h h':Heap} {a:Addr} {ds:List (Str×D)} (x:DctAt w G h a ds) (hl:Le G G') (he:∀ o,h.get? a=some o→h'.get? a=some o):DctAt w G' h' a ds:=by
 obtain ⟨vs,⟨o,es,ep,h1,h2⟩,r⟩:=x
 exact ⟨vs,⟨o,es,ep,he _ h1,h2⟩,r.mono hl⟩
noncomputable def dctK (w:World) (a:Addr) (ds:List (Str×D)):Kd:=⟨fun _ G h=>DctAt w G h a ds,[a],[a],fun hl he x=>x.to hl (he a (.head _))⟩
theorem DctAt.obj {G:Fz} {h:Heap} {a:Addr} {ds:List (Str×D)} (x:DctAt w G h a ds):∃ es m,h.get? a=some (dctO es m)∧RepE w.params G es.toList ds∧(ds.map (·.1)).Nodup:=by
 obtain ⟨vs,⟨o,es,ep,h1,⟨e1,e2,e3⟩,h3,h4,h5,h6⟩,r⟩:=x
 obtain ⟨oc,od,odt,osl⟩:=o
 dsimp only at e1 e2 e3 h3
 subst e1 e2 e3 h3
 refine ⟨es,ep,h1,?_,by rw [← r.names];exact h6⟩
 have key:∀ {l:List DictEntry} {vs:List (Str×Value)} {ds:List (Str×D)},(∀ e∈l,∃ k,(sk w).is k e.key=true∧e.hash=(sk w).hash k)→Pairs (sk w) l vs→RepV w.params G vs ds→RepE w.params G l ds:=by
  intro l vs ds hk hp
  induction hp generalizing ds with
  | nil=>intro r;cases r;exact .nil
  | @cons e kv l vs h1 h2 hp ih=>
   intro r
   cases r with
   | @cons x v d _ ds hr r=>
    obtain ⟨k,hk1,hk2⟩:=hk e (.head _)
    obtain ⟨t,ht⟩:=Value.isStrOf_shape (show Value.isStrOf _ e.key=true from h1)
    obtain ⟨u,hu⟩:=Value.isStrOf_shape (show Value.isStrOf _ e.key=true from hk1)
    obtain ⟨eh,ek,ev⟩:=e
    dsimp only at h1 h2 hk1 hk2 ht hu
    rw [ht] at hu
    injection hu with hu1 hu2
    subst hu1 ht h2 hk2
    exact .cons hr (ih (fun e he=>hk e (.tail _ he)) r)
 exact key (fun e he=>h4 e (Array.mem_toList_iff.mp he)) h5 r
theorem stored_new {vs:List (Str×Value)} {ds:List (Str×D)} {G:Fz} {x:Str} {v:Value} (r:RepV w.params G vs ds) (h:x∉ds.map (·.1)):stored vs x v=vs++[(x,v)]:=by
 unfold stored
 rw [if_neg]
 intro hh
 obtain ⟨kv,h1,h2⟩:=List.any_eq_true.mp hh
 refine h ?_
 rw [← r.names]
 exact List.mem_map.mpr ⟨kv,h1,by simpa using h2⟩
theorem RepV.snoc {G:Fz} {x:Str} {v:Value} {d:D} (hv:Rep w.params G v d) {vs:List (Str×Value)} {ds:List (Str×D)} (h:RepV w.params G vs ds):RepV w.params G (vs++[(x,v)]) (ds++[(x,d)]):=by
 induction h with
 | nil=>exact .cons hv .nil
 | cons h _ ih=>exact .cons h ih
theorem st_setd {o i e:PySem.Expr} {p1 pos:Pos} {rest:List Stmt} {A:Around} {G₀ G:Fz} {s₀ s:Shared} {M:List Addr} {Q:Flow→Shared→Prop} {E:Value→Shared→Prop} {a:Addr} {ds:List (Str×D)} {x:Str} {d:D} {nm:Option Str} {ρ':Rho} (ao:AOK n A) (c:St w env G₀ s₀ M ρ G s)
  (ho:EvV w env n [] ρ o (.ref a)) (sw:Swap (nm,dctK w a ds) (nm,dctK w a (ds++[(x,d)])) ρ ρ') (he:Ev w env n [] ρ e (fun d'=>d'=d)) (hi:Ev w env n [] ρ i (fun d'=>d'=.str x)) (hx:x∉ds.map (·.1)) (hlen:ds.length≤10000)
  (k:∀ G' s',St w env G₀ s₀ M ρ' G' s'→wpAny (model pw w) A (execs rest env) Q E s') (hs:swapsWith e (some (.Subscript o i p1)) pos.line env=pure false:=by rfl) :
  wpAny (model pw w) A (execs (.Assign [.Subscript o i p1] e pos::rest) env) Q E s:=
 wpAny_execs_cons (wpAny_Assign_Subscript (he A G₀ s₀ M G s _ E ao noN c fun v1 G1 s1 y1 c1 ⟨d1,r1,e1⟩=>ho A G₀ s₀ M G1 s1 _ E ao noN c1 fun v2 G2 s2 y2 c2 e2=>hi A G₀ s₀ M G2 s2 _ E ao noN c2 fun v3 G3 s3 y3 c3 ⟨d3,r3,e3⟩=>by
  subst e1 e2 e3
  obtain ⟨_,rfl⟩:=r3.inv
  have hd:DctAt w G3 s3.heap a ds:=by
   have:=c3.vars _ sw.mem
   cases nm with
   | none=>exact this
   | some y=>obtain ⟨u,_,h⟩:=this;exact h
  obtain ⟨vs,hD,r⟩:=hd
  refine wpAny_setItem_pairs (strKind_is pw w x _) hD (fun h' hD' hsb=>?_) (by rw [r.length,sizeLine_eq];exact q1 ‹_›)
  rw [stored_new r hx] at hD'
  refine k G3 _ (c3.chgAt sw (I:=a) (h':=h') (by show a∈[a];simp) (fun b o hb e=>(hsb.2 b hb).trans e) ?_ rfl rfl (fun v _=>⟨_,hD',r.snoc ((r1.mono y2.le).mono y3.le)⟩) _)
  obtain ⟨o,es,ep,h1,_⟩:=hD'
  rw [h1];exact fun h=>nomatch h) hs)
end Mine
end
section
namespace Mine
variable {w:World} {env:Env} {n:Nat} {N:List Addr} {ρ:Rho}
theorem RX.sub {A:Around} {M:List Addr} {X X':Int→Prop} {s:Shared} {E:Value→Shared→Prop} (r:RX w A M X s E) (h:∀ a∈N,a∈M) (hX:∀ z,X' z→X z):RX w A N X' s E:=fun z hz=>by
 obtain ⟨h0,fr,l,h1,h2,h3⟩:=r z (hX z hz)
 exact ⟨h0,fr,l,h1,⟨h2.ff,fun L hL=>⟨(h2.fn L hL).1,fun q=>(h2.fn L hL).2 (h _ q)⟩,h2.keep,fun a ha=>h2.nN a (h a ha)⟩,h3⟩
theorem RX.grow {A:Around} {N2:List Addr} {X:Int→Prop} {s:Shared} {E:Value→Shared→Prop} (r:RX w A N X s E) (h:∀ a∈N2,s.heap.get? a=none):RX w A (N2++N) X s E:=fun z hz=>by
 obtain ⟨h0,fr,l,h1,h2,h3⟩:=r z hz
 refine ⟨h0,fr,l,h1,⟨h2.ff,fun L hL=>⟨(h2.fn L hL).1,fun q=>?_⟩,h2.keep,fun a ha=>?_⟩,h3⟩
 ·rcases List.mem_append.mp q with q | q
  ·obtain ⟨_,o,ho,_⟩:=h2.ff.mem hL
   rw [h _ q] at ho;cases ho
  ·exact (h2.fn L hL).2 q
 ·rcases List.mem_append.mp ha with q | q
  ·cases e:h0.get? a with
   | none=>rfl
   | some o=>obtain ⟨sl,x,_⟩:=h2.keep a o e (fun h=>nomatch h);rw [h _ q] at x;cases x
  ·exact h2.nN a q
noncomputable def RR (w:World) (env:Env) (G₀:Fz) (s₀:Shared) (M:List Addr) (A:Around) (X:Int→Prop) (E:Value→Shared→Prop):Prop:=∀ {ρ:Rho} {G:Fz} {s:Shared},St w env G₀ s₀ M ρ G s→RX w A M X s E
theorem deeper_frames {A:Around} {env:Env}:∀ l,(A.deeper env).frames=some l→∃ o,l=env::o:=fun l h=>by
 have h:A.frames.map (env :: ·)=some l:=h
 obtain ⟨o,_,e⟩:=Option.map_eq_some_iff.mp h
 exact ⟨o,e.symm⟩
theorem RR.loop {G₀:Fz} {s₀:Shared} {M:List Addr} {A:Around} {X:Int→Prop} {E:Value→Shared→Prop} (r:RR w env G₀ s₀ M A X E) (hA:∀ l,A.frames=some l→∃ o,l=env::o):RR w env G₀ s₀ M A X (EFor w A env E):=fun c=>(r c).loop hA
theorem op_fnX {fa:Addr} {fd:FuncData} {body:List Stmt} (ff:FnFacts w fa fd body) {vs:List Value} {binds:List (Str×Value)} {G:Fz} {s:Shared} {ρ₀:Rho} {X:Int→Prop} {A:Around} {Q:Value→Shared→Prop} {E:Value→Shared→Prop}
  (hbind:bindArgs fd ⟨vs,[]⟩=pure binds) (hnd:(binds.map (·.1)).Nodup) (hkind:∀ x∈binds.map (·.1),fd.scope.names.lookup x=some .local∨fd.scope.names.lookup x=some .cell)
  (i:Inn G s.heap) (b:Bs w G) (a:AOK (n+1) A) (r:RX w A N X s E) (hN:∀ a∈N,s.heap.get? a≠none)
  (hρ:∀ q∈ρ₀,match q.1 with | some x=>∃ v,(x,v)∈binds∧q.2.p v G s.heap | none=>q.2.p .none G s.heap)
  (hfps:∀ q∈ρ₀,∀ a∈q.2.fp,s.heap.get? a≠none) (hows:∀ q∈ρ₀,∀ a∈q.2.ow,a∈q.2.fp∧G a=none∧a∈N) (hsep:ρ₀.Pairwise Sep)
  (h:∀ A s₁ (Q':Flow→Shared→Prop) (E':Value→Shared→Prop),AOK n A→(∀ l,A.frames=some l→∃ o,l=callEnvC fd s.heap.objs.size fa::o)→St w (callEnvC fd s.heap.objs.size fa) G s N ρ₀ G s₁→RR w (callEnvC fd s.heap.objs.size fa) G s N A X E'→
   (∀ f s',Q (match f with | .ret v=>v | _=>.none) s'→Q' f s')→wpAny (model pw w) A (execs body (callEnvC fd s.heap.objs.size fa)) Q' E' s₁):wpAny (model pw w) A (call (.ref fa) vs) Q E s:=
 wpAny_call (codeAny_fn ff hbind hnd hkind i b (by have:=a.1;show A.depth < 1000;omega) hρ hfps hows hsep fun env s₁ he c=>by
  subst he
  exact h (A.deeper _) s₁ _ _ ⟨by have:=a.1;show A.depth+1+n≤900;omega,by have:=a.2.1;show A.units+3+8 * n≤9000;omega,a.2.2⟩ deeper_frames c
   (fun {ρ2 G2 s2} c2=>r.leave c2 (fresh_size _) rfl (by show fd.scope.kind≠_;rw [ff.kind];decide) hN) fun f s' q=>q)
theorem meth_go {o:PySem.Expr} {nm:Str} {apos pos:Pos} {args:List PySem.Expr} {x C:Addr} {fa:Addr} {fd:FuncData} {body:List Stmt} {q dx fs} {PA:List D→Prop} {ts:List (Bool×Sem Value)} {A:Around} {G₀ G:Fz} {s₀ s:Shared} {M:List Addr} {Q:Value→Shared→Prop} {E:Value→Shared→Prop}
  (ff:FnFacts w fa fd body) (ho:EvV w env n [] ρ o (.ref x)) (hi:InstIn w ρ x C nm q dx fs) (ha:Trs w env n [] ρ ts PA) (a:AOK n A) (c:St w env G₀ s₀ M ρ G s)
  (hop:∀ G2 s2 vs ds,Step G s [] G2 s2→St w env G₀ s₀ M ρ G2 s2→RepL w.params G2 vs ds→PA ds→wpAny (model pw w) A (call (.ref fa) (.ref x::vs)) Q E s2)
  (ht:backTo pos (starEach args env)=ts) (hts:(ts=[]∧PA [])∨∃ e r,ts=(false,e)::r)
  (hg:plainGet (KK w.params) C nm=true) (hf:findIn (KK w.params) (.ref C) nm=some (some (.ref fa))) (hfn:isFn (KK w.params) (.ref fa)=true)
  (hbase:attributeBase o nm env (eval o env)=eval o env:=by rfl) (hline:(apos.endLine==pos.line)=true:=by rfl) (hform:methodCallForm (args.length+([]:List Keyword).length) ts (backToKw pos (keywordEach [] env))=true:=by rfl) :
  wpAny (model pw w) A (eval (.Call (.Attribute o nm apos) args [] pos) env) Q E s:=by
 refine meth_wp ht hbase hline hform hg hf hfn (ho A G₀ s₀ M G s _ E a noN c fun v G1 s1 y1 z1 e=>⟨e,z1.bs,hi.at z1.vars,?_⟩)
 rcases hts with ⟨rfl,hp⟩ | ⟨e0,r0,rfl⟩
 ·exact callWith_own0 ff z1.bs (hop G1 s1 [] [] y1 z1 .nil hp)
 ·exact callWith_own1 ff (ha A G₀ s₀ M G1 s1 _ E a noN z1 fun vs G2 s2 ds y2 z2 r p hl=>⟨z2.bs,hop G2 s2 vs ds (y1.trans y2 fun _ h=>nomatch h) z2 r p⟩)
theorem st_expr {e:PySem.Expr} {pos:Pos} {rest:List Stmt} {A:Around} {s:Shared} {Q:Flow→Shared→Prop} {E:Value→Shared→Prop} (h:wpAny (model pw w) A (eval e env) (fun _ s1=>wpAny (model pw w) A (execs rest env) Q E s1) E s)
  (hi:interactive env=false:=by rfl) (hs:swapsWith e none pos.line env=pure false:=by rfl):wpAny (model pw w) A (execs (.Expr e pos::rest) env) Q E s:=wpAny_execs_cons (wpAny_Expr_any (hi:=hi) (hs:=hs) h)
theorem look_isSome {vs:List (Str×Value)} {ds:List (Str×D)} {G:Fz} {x:Str} (r:RepV w.params G vs ds):(valueAt vs x).isSome=decide (x∈ds.map (·.1)):=by
 induction r with
 | nil=>simp [valueAt]
 | @cons y v d vs ds h r ih=>
  unfold valueAt at ih ⊢
  by_cases q:y=x
  ·simp [q]
  ·simp only [List.find?_cons,q,decide_false,ih,List.map_cons,List.mem_cons]
   simp [Ne.symm q]
noncomputable def KDc (w:World) (ds:List (Str×D)) (v:Value) (G:Fz) (s:Shared):Prop:=∃ a,v=.ref a∧a≠1∧DctAt w G s.heap a ds
theorem DctAt.step {G G':Fz} {s s':Shared} {a:Addr} {ds:List (Str×D)} (h:DctAt w G s.heap a ds) (y:Step G s [] G' s'):DctAt w G' s'.heap a ds:=by
 obtain ⟨vs,⟨o,es,ep,h1,h2⟩,r⟩:=h
 exact ⟨vs,⟨o,es,ep,y.keep _ _ (fun h=>nomatch h) h1,h2⟩,r.mono y.le⟩
theorem in_dct {A:Around} {E:Value→Shared→Prop} {Q:Value→Shared→Prop} {G:Fz} {s:Shared} {a:Addr} {ds:List (Str×D)} {x:Str} {t:Tok} (hd:DctAt w G s.heap a ds) (ha:a≠1) (h:Q (.bool (decide (x∈ds.map (·.1)))) {s with toks:=s.toks+1}) :
  wpAny (model pw w) A (compareOp .In (.str x t) (.ref a)) Q E s:=by
 obtain ⟨vs,hD,r⟩:=hd
 exact wpAny_in_of (strKind_is pw w x t) (by show (a==1)=false;simpa using ha) hD.mapOf (by rw [look_isSome r];exact h)
theorem notIn_dct {A:Around} {E:Value→Shared→Prop} {Q:Value→Shared→Prop} {G:Fz} {s:Shared} {a:Addr} {ds:List (Str×D)} {x:Str} {t:Tok} (hd:DctAt w G s.heap a ds) (ha:a≠1) (h:Q (.bool (!decide (x∈ds.map (·.1)))) {s with toks:=s.toks+1}) :
  wpAny (model pw w) A (compareOp .NotIn (.str x t) (.ref a)) Q E s:=by
 obtain ⟨vs,hD,r⟩:=hd
 exact wpAny_notIn_of (strKind_is pw w x t) (by show (a==1)=false;simpa using ha) hD.mapOf (by rw [look_isSome r];exact h)
theorem tr_inD {l r pos} {ds:List (Str×D)} {P1:D→Prop} {P:Bool→Prop} (hl:Ev w env n [] ρ l P1) (hr:EvK w env n [] ρ r (fun _=>KDc w ds)) (h:∀ d,P1 d→E1 .str d fun x=>P (decide (x∈ds.map (·.1)))) (hm:behindInMarks .In r=false:=by with_unfolding_all rfl):Tr w env n [] ρ (.Compare l [.In] [r] pos) P:=
 tr_cmp (hm:=hm) hl hr KD.step fun G s v1 v2 i _ ⟨d1,r1,p1⟩ ⟨a,e,ha,hd⟩=>by
  obtain ⟨x,rfl,hp⟩:=h _ p1
  subst e
  obtain ⟨_,rfl⟩:=r1.inv
  exact fun A Q E _ k=>in_dct hd ha (k _ G _ (Step.tk i _) ⟨_,.bool _,_,rfl,hp⟩)
theorem ev_inD {l r pos} {ds:List (Str×D)} {P1:D→Prop} {P:Bool→Prop} (hl:Ev w env n [] ρ l P1) (hr:EvK w env n [] ρ r (fun _=>KDc w ds)) (h:∀ d,P1 d→E1 .str d fun x=>P (decide (x∈ds.map (·.1)))) (hm:behindInMarks .In r=false:=by with_unfolding_all rfl):Ev w env n [] ρ (.Compare l [.In] [r] pos) (fun d=>∃ b,d=.bool b∧P b):=
 ev_cmp (hm:=hm) hl hr KD.step fun G s v1 v2 i _ ⟨d1,r1,p1⟩ ⟨a,e,ha,hd⟩=>by
  obtain ⟨x,rfl,hp⟩:=h _ p1
  subst e
  obtain ⟨_,rfl⟩:=r1.inv
  exact fun A Q E _ k=>in_dct hd ha (k _ G _ (Step.tk i _) ⟨_,.bool _,_,rfl,hp⟩)
theorem tr_notInD {l r pos} {ds:List (Str×D)} {P1:D→Prop} {P:Bool→Prop} (hl:Ev w env n [] ρ l P1) (hr:EvK w env n [] ρ r (fun _=>KDc w ds)) (h:∀ d,P1 d→E1 .str d fun x=>P (!decide (x∈ds.map (·.1)))) (hm:behindInMarks .NotIn r=false:=by with_unfolding_all rfl):Tr w env n [] ρ (.Compare l [.NotIn] [r] pos) P:=
 tr_cmp (hm:=hm) hl hr KD.step fun G s v1 v2 i _ ⟨d1,r1,p1⟩ ⟨a,e,ha,hd⟩=>by
  obtain ⟨x,rfl,hp⟩:=h _ p1
  subst e
  obtain ⟨_,rfl⟩:=r1.inv
  exact fun A Q E _ k=>notIn_dct hd ha (k _ G _ (Step.tk i _) ⟨_,.bool _,_,rfl,hp⟩)
end Mine
end
section
namespace Mine
structure Opn where
 spot:Int
 md:Str
 args:List Str
 al:Str
inductive Im where
 | sig (t:Sg) | opn (o:Opn)
noncomputable def encI:Im→D
 | .sig t=>encS t
 | .opn o=>.tup [.str "open",.int o.spot,.str o.md,.tup (o.args.map .str),.str o.al]
noncomputable def sigsOf:List Im→List Sg
 | []=>[]
 | .sig t::r=>t::sigsOf r
 | .opn _::r=>sigsOf r
noncomputable def opnsOf:List Im→List Opn
 | []=>[]
 | .sig _::r=>opnsOf r
 | .opn o::r=>o::opnsOf r
theorem sigsOf_append {a b:List Im}:sigsOf (a++b)=sigsOf a++sigsOf b:=by
 induction a with
 | nil=>rfl
 | cons i r ih=>
  cases i with
  | sig t=>exact congrArg (t :: ·) ih
  | opn o=>exact ih
theorem opnsOf_append {a b:List Im}:opnsOf (a++b)=opnsOf a++opnsOf b:=by
 induction a with
 | nil=>rfl
 | cons i r ih=>
  cases i with
  | sig t=>exact ih
  | opn o=>exact congrArg (o :: ·) ih
noncomputable def rowsS (ts:List Sg):List (Str×Sg):=ts.flatMap fun t=>t.names.map fun n=>(n,t)
theorem rowsS_append {a b:List Sg}:rowsS (a++b)=rowsS a++rowsS b:=by simp [rowsS]
noncomputable def keys (rows:List (Str×Sg)):List Str:=rows.map (·.1)
section
variable {α:Type}
noncomputable def Good (Bad:List α→α→Prop) (l:List α):Prop:=∀ pre y post,l=pre++y::post→¬ Bad pre y
noncomputable def First (Bad:List α→α→Prop) (l:List α) (x:α):Prop:=∃ pre post,l=pre++x::post∧Good Bad pre∧Bad pre x
variable {Bad:List α→α→Prop}
theorem Good.nil:Good Bad []:=fun pre y post h=>by cases pre<;>cases h
theorem Good.snoc {l:List α} {x:α} (h:Good Bad l) (hx:¬ Bad l x):Good Bad (l++[x]):=fun pre y post e=>by
 rcases List.eq_nil_or_concat post with rfl | ⟨post',z,rfl⟩
 ·have:=List.append_inj' e rfl
  obtain ⟨rfl,e2⟩:=this
  cases e2
  exact hx
 ·have e':l++[x]=(pre++y::post')++[z]:=by simpa using e
  have:=List.append_inj' e' rfl
  exact h pre y post' this.1
theorem Good.left {l m:List α} (h:Good Bad (l++m)):Good Bad l:=fun pre y post e=>h pre y (post++m) (by rw [e];simp)
theorem First.not_good {l:List α} {x:α} (h:First Bad l x) (g:Good Bad l):False:=by
 obtain ⟨pre,post,e,_,hb⟩:=h
 exact g pre x post e hb
theorem First.unique {l:List α} {x y:α} (h:First Bad l x) (k:First Bad l y):x=y:=by
 obtain ⟨pre,post,e,g,hb⟩:=h
 obtain ⟨pre',post',e',g',hb'⟩:=k
 have:pre++x::post=pre'++y::post':=e.symm.trans e'
 rcases List.append_eq_append_iff.mp this with ⟨a,h1,h2⟩ | ⟨a,h1,h2⟩
 ·cases a with
  | nil=>simp at h2;exact h2.1
  | cons b a=>
   simp only [List.cons_append,List.cons.injEq] at h2
   obtain ⟨rfl,h3⟩:=h2
   exact (g' pre x a h1 hb).elim
 ·cases a with
  | nil=>simp at h2;exact h2.1.symm
  | cons b a=>
   simp only [List.cons_append,List.cons.injEq] at h2
   obtain ⟨rfl,h3⟩:=h2
   exact (g pre' y a h1 hb').elim
end
noncomputable def dupIn:List Str→List Str→Prop
 | _,[]=>False
 | seen,n::ns=>n∈seen∨dupIn (seen++[n]) ns
noncomputable def BadSig (pre:List Sg) (t:Sg):Prop:=dupIn (keys (rowsS pre)) t.names∨(t.sups≠[]∧t.abs=true)
noncomputable def BadRow (rows:List (Str×Sg)) (_:List (Str×Sg)) (p:Str×Sg):Prop:=(∃ u∈p.2.up,u∉keys rows)∨(p.2.parent≠""∧∃ q,look rows p.2.parent=some q∧q.sups≠[])
noncomputable def ready (found:List Str) (t:Sg):Bool:=t.up.all fun u=>decide (u∈found)
noncomputable def toldF:Nat→List Str→List (Str×Sg)→List Str×List (Str×Sg)
 | 0,found,left=>(found,left)
 | n+1,found,left=>match left.findIdx? (fun p=>ready found p.2) with
  | none=>(found,left)
  | some k=>toldF n (found++[(left[k]?.map Prod.fst).getD ("" : Str)]) (left.eraseIdx k)
noncomputable def told (rows:List (Str×Sg)):List Str×List (Str×Sg):=toldF rows.length [] rows
structure Fd where
 field:Str
 name:Str
 spot:Int
 group:Int
noncomputable def declsOf (rows:List (Str×Sg)) (order:List Str):List (Str×Dc):=order.flatMap fun n=>match look rows n with | some t=>t.decls.map (n,·) | none=>[]
noncomputable def numbered:Nat→List (Str×Dc)→List Fd
 | _,[]=>[]
 | g,(n,d)::r=>d.fields.map (fun f=>⟨f,n,d.spot,if d.disj then (g:Int) else -1⟩)++numbered (g+(if d.disj then 1 else 0)) r
noncomputable def groupsUp (l:List (Str×Dc)):Nat:=(l.map fun p=>if p.2.disj then 1 else 0).sum
theorem numbered_append {g:Nat} {a b:List (Str×Dc)}:numbered g (a++b)=numbered g a++numbered (g+groupsUp a) b:=by
 induction a generalizing g with
 | nil=>rfl
 | cons p r ih=>
  obtain ⟨n,d⟩:=p
  simp only [List.cons_append,numbered,ih,List.append_assoc,groupsUp,List.map_cons,List.sum_cons]
  rw [Nat.add_assoc]
inductive Reach (up:Str→List Str):List Str→Str→Prop
 | here {ws o}:o∈ws→Reach up ws o
 | on {ws x o}:Reach up ws x→o∈up x→Reach up ws o
noncomputable def Above (rows:List (Str×Sg)) (n o:Str):Prop:=Reach (upOf rows) (upOf rows n) o
noncomputable def BadField (rows:List (Str×Sg)) (pre:List Fd) (f:Fd):Prop:=f.field∈keys rows∨∃ o,(o=f.name∨Above rows f.name o)∧∃ q∈pre,q.field=f.field∧q.name=o
noncomputable def alOf (o:Opn):Str:=if o.al = "" then "ordering" else o.al
noncomputable def BadOpn (rows:List (Str×Sg)) (pre:List Opn) (o:Opn):Prop:=o.md≠"util/ordering"∨o.args.length≠1∨(∃ a∈o.args,a∉keys rows)∨∃ q∈pre,alOf q=alOf o
noncomputable def ownF (rows:List (Str×Sg)):List Fd:=numbered 0 (declsOf rows (told rows).1)
inductive Refused (its:List Im):Int→Prop
 | sig {t}:First BadSig (sigsOf its) t→Refused its t.spot
 | row {p}:Good BadSig (sigsOf its)→First (BadRow (rowsS (sigsOf its))) (rowsS (sigsOf its)) p→Refused its p.2.spot
 | ring {p r}:Good BadSig (sigsOf its)→Good (BadRow (rowsS (sigsOf its))) (rowsS (sigsOf its))→(told (rowsS (sigsOf its))).2=p::r→Refused its p.2.spot
 | field {f}:Good BadSig (sigsOf its)→Good (BadRow (rowsS (sigsOf its))) (rowsS (sigsOf its))→(told (rowsS (sigsOf its))).2=[]→First (BadField (rowsS (sigsOf its))) (ownF (rowsS (sigsOf its))) f→Refused its f.spot
 | opn {o}:Good BadSig (sigsOf its)→Good (BadRow (rowsS (sigsOf its))) (rowsS (sigsOf its))→(told (rowsS (sigsOf its))).2=[]→Good (BadField (rowsS (sigsOf its))) (ownF (rowsS (sigsOf its)))→First (BadOpn (rowsS (sigsOf its))) (opnsOf its) o→Refused its o.spot
structure Taken (its:List Im):Prop where
 sig:Good BadSig (sigsOf its)
 row:Good (BadRow (rowsS (sigsOf its))) (rowsS (sigsOf its))
 ring:(told (rowsS (sigsOf its))).2=[]
 field:Good (BadField (rowsS (sigsOf its))) (ownF (rowsS (sigsOf its)))
 opn:Good (BadOpn (rowsS (sigsOf its))) (opnsOf its)
theorem Taken.not {its:List Im} {z:Int} (h:Taken its) (r:Refused its z):False:=by
 cases r with
 | sig a=>exact a.not_good h.sig
 | row _ a=>exact a.not_good h.row
 | ring _ _ e=>rw [h.ring] at e;cases e
 | field _ _ _ a=>exact a.not_good h.field
 | opn _ _ _ _ a=>exact a.not_good h.opn
theorem Refused.one {its:List Im} {y z:Int} (h:Refused its y) (k:Refused its z):y=z:=by
 cases h with
 | sig a=>cases k with
  | sig b=>rw [a.unique b]
  | row b _=>exact (a.not_good b).elim
  | ring b _ _=>exact (a.not_good b).elim
  | field b _ _ _=>exact (a.not_good b).elim
  | opn b _ _ _ _=>exact (a.not_good b).elim
 | row a a2=>cases k with
  | sig b=>exact (b.not_good a).elim
  | row _ b=>rw [a2.unique b]
  | ring _ b _=>exact (a2.not_good b).elim
  | field _ b _ _=>exact (a2.not_good b).elim
  | opn _ b _ _ _=>exact (a2.not_good b).elim
 | ring a a2 e=>cases k with
  | sig b=>exact (b.not_good a).elim
  | row _ b=>exact (b.not_good a2).elim
  | ring _ _ e2=>rw [e] at e2;cases e2;rfl
  | field _ _ e2 _=>rw [e] at e2;cases e2
  | opn _ _ e2 _ _=>rw [e] at e2;cases e2
 | field a a2 e a3=>cases k with
  | sig b=>exact (b.not_good a).elim
  | row _ b=>exact (b.not_good a2).elim
  | ring _ _ e2=>rw [e] at e2;cases e2
  | field _ _ _ b=>rw [a3.unique b]
  | opn _ _ _ b _=>exact (a3.not_good b).elim
 | opn a a2 e a3 a4=>cases k with
  | sig b=>exact (b.not_good a).elim
  | row _ b=>exact (b.not_good a2).elim
  | ring _ _ e2=>rw [e] at e2;cases e2
  | field _ _ _ b=>exact (b.not_good a3).elim
  | opn _ _ _ _ b=>rw [a4.unique b]
end Mine
end
section
namespace Mine
variable {w:World} {env:Env} {n:Nat} {N:List Addr} {ρ:Rho}
noncomputable def SepA (p q:Option Str×List Addr×List Addr):Prop:=(p.1=none∨p.1≠q.1)∧(∀ a∈p.2.2,a∉q.2.1)∧(∀ a∈q.2.2,a∉p.2.1)
theorem sep_map {ρ:Rho} (h:(ρ.map fun q=>(q.1,q.2.fp,q.2.ow)).Pairwise SepA):ρ.Pairwise Sep:=(List.pairwise_map (R:=SepA) (f:=fun q:Option Str×Kd=>(q.1,q.2.fp,q.2.ow))).mp h
noncomputable def factK (p:Prop):Kd:=⟨fun _ _ _=>p,[],[],fun _ _ h=>h⟩
theorem St.fact {G₀ G:Fz} {s₀ s:Shared} {M:List Addr} {p:Prop} (c:St w env G₀ s₀ M ρ G s) (h:(none,factK p)∈ρ):p:=c.vars _ h
theorem St.refact {G₀ G:Fz} {s₀ s:Shared} {M:List Addr} {p p':Prop} {ρ':Rho} (c:St w env G₀ s₀ M ρ G s) (sw:Swap (none,factK p) (none,factK p') ρ ρ') (h:p'):St w env G₀ s₀ M ρ' G s:=by
 obtain ⟨r,h1,h2⟩:=sw.perm
 exact (((c.perm h1).tail).addF (K:=factK p') h (fun _ h=>nomatch h) (fun _ h=>nomatch h) (fun q _=>⟨(fun _ h=>nomatch h),(fun _ _ h=>nomatch h)⟩)).perm h2.symm
theorem St.newfact {G₀ G:Fz} {s₀ s:Shared} {M:List Addr} {p:Prop} (c:St w env G₀ s₀ M ρ G s) (h:p):St w env G₀ s₀ M ((none,factK p)::ρ) G s:=
 c.addF (K:=factK p) h (fun _ h=>nomatch h) (fun _ h=>nomatch h) (fun q _=>⟨(fun _ h=>nomatch h),(fun _ _ h=>nomatch h)⟩)
structure Bld (w:World) (x dx de ls:Addr) (fs:List (Str×Value)) (rows:List (Str×Sg)) (G:Fz) (h:Heap):Prop where
 inst:(inst w.params x dx 257 fs).p (.ref x) G h
 dct:DctAt w G h de (entL rows)
 lst:∃ vs m,h.get? ls=some (lstO vs m)∧RepL w.params G vs.toList ((keys rows).map .str)
 e1:look fs "entries" = some (.ref de)
 e2:look fs "stands" = some (.ref ls)
 apart:de≠ls∧de≠x∧de≠dx∧ls≠x∧ls≠dx
 big:de≠1
 no:∀ y,look fs y≠none→y∈attrs
variable {x dx de ls:Addr} {fs:List (Str×Value)} {rows:List (Str×Sg)}
theorem evv_selfat {a:Addr} {at_:Str} {p1 p2:Pos} {K:Kd} (h:(some ("self" : Str),K)∈ρ) (hK:K.p=(Mine.inst w.params x dx 257 fs).p) (hk:env.scope.kind=.function) (hv:look fs at_=some (.ref a)) (hg:plainGet (KK w.params) 257 at_=true) (ha:findIn (KK w.params) (.ref 257) at_=some none) :
  EvV w env n N ρ (.Attribute (.Name "self" p1) at_ p2) (.ref a):=
 evk_attr ((evk_name h hk).mono fun _ v G s' _ hv=>by
  have h2:(Mine.inst w.params x dx 257 fs).p v G s'.heap:=by rw [← hK];exact hv
  exact h2.1) h hK hv hg (by rfl) ha rfl rfl
theorem evd_own {e:PySem.Expr} {a:Addr} {ds:List (Str×D)} {nm:Option Str} (he:EvV w env n N ρ e (.ref a)) (h:(nm,dctK w a ds)∈ρ) (ha:a≠1):EvK w env n N ρ e (fun _=>KDc w ds):=fun A G₀ s₀ M G s Q E aa b c k=>
 he A G₀ s₀ M G s _ E aa b c fun u G1 s1 y1 z1 e=>by
  subst e
  have:DctAt w G1 s1.heap a ds:=by
   have:=z1.vars _ h
   cases nm with
   | none=>exact this
   | some y=>obtain ⟨u,_,h⟩:=this;exact h
  exact k _ G1 s1 y1 z1 ⟨a,rfl,ha,this⟩
noncomputable def envTk (L:Addr):Env:=callEnvC (metFd 1 "take_sig" 110) L 111
noncomputable def rT (w:World) (x dx de ls:Addr) (fs:List (Str×Value)) (rows:List (Str×Sg)) (t:Sg) (i:Nat):Rho:=
 (some ("self" : Str),(inst w.params x dx 257 fs).ro)::(none,dctK w de (entL (rows++(t.names.take i).map (·,t))))::(none,accK w ls ((keys rows++t.names.take i).map .str)) ::
  (none,factK (dupIn (keys rows) t.names↔dupIn (keys rows++t.names.take i) (t.names.drop i)))::(some ("item" : Str),dat w.params (encS t))::[]
theorem keys_app {rows:List (Str×Sg)} {l:List Str} {t:Sg}:keys (rows++l.map (·,t))=keys rows++l:=by
 unfold keys
 rw [List.map_append,List.map_map]
 congr 1
 exact List.map_id' l
theorem entL_snoc {rows:List (Str×Sg)} {x:Str} {t:Sg}:entL (rows++[(x,t)])=entL rows++[(x,encS t)]:=by simp [entL]
theorem entL_keys {rows:List (Str×Sg)}:(entL rows).map (·.1)=keys rows:=by simp [entL,keys]
set_option maxHeartbeats 2000000 in
theorem c_take {t:Sg} {G:Fz} {s:Shared} {vs:List Value} {A:Around} {Q:Value→Shared→Prop} {E:Value→Shared→Prop} {X:Int→Prop} (B:Bld w x dx de ls fs rows G s.heap) (i:Inn G s.heap) (b:Bs w G) (hG:G de=none∧G ls=none) (hb:rows.length+t.names.length≤1000∧t.sups.length≤1000) (hs:∀ y∈t.names,y.length≤1000)
  (rp:RepL w.params G vs [encS t]) (a:AOK (n+1) A) (r:RX w A [de,ls] X s E) (hX:(dupIn (keys rows) t.names∨(t.sups≠[]∧t.abs=true))→X t.spot)
  (k:∀ G' s',Step G s [de,ls] G' s'→Bld w x dx de ls fs (rows++t.names.map (·,t)) G' s'.heap→¬ (dupIn (keys rows) t.names∨(t.sups≠[]∧t.abs=true))→Q .none s') :
  wpAny (model pw w) A (call (.ref 111) (.ref x::vs)) Q E s:=by
 obtain ⟨v,rfl,rv⟩:∃ v,vs=[v]∧Rep w.params G v (encS t):=by
  obtain ⟨_,_,rfl,h1,h2⟩:=rp.inv
  cases h2;exact ⟨_,rfl,h1⟩
 obtain ⟨vsl,ml,hl1,hl2⟩:=B.lst
 obtain ⟨ap1,ap2,ap3,ap4,ap5⟩:=B.apart
 have hdx:s.heap.get? x≠none∧s.heap.get? dx≠none:=by
  obtain ⟨_,g1,es,m,g2,_⟩:=B.inst
  rw [g1,g2];exact ⟨fun h=>(nomatch h),fun h=>(nomatch h)⟩
 have hde:s.heap.get? de≠none:=by
  obtain ⟨_,⟨o,es,ep,h1,_⟩,_⟩:=B.dct
  rw [h1];exact fun h=>(nomatch h)
 have hls:s.heap.get? ls≠none:=by rw [hl1];exact fun h=>(nomatch h)
 refine op_fnX ff_take (binds:=[(("self" : Str),.ref x),("item",v)]) (ρ₀:=rT w x dx de ls fs rows t 0) rfl (by show [("self" : Str),"item"].Nodup;decide) (by show ∀ y∈[("self" : Str),"item"],_;decide +kernel) i b a r ?_ ?_ ?_ ?_ ?_ ?_
 ·intro ad had
  simp only [List.mem_cons,List.not_mem_nil,or_false] at had
  rcases had with rfl | rfl<;>assumption
 ·refine fa_cons ?_ (fa_cons ?_ (fa_cons ?_ (fa_cons ?_ (fa_cons ?_ (fa_nil)))))
  ·exact ⟨_,.head _,B.inst⟩
  ·simpa [dctK] using B.dct
  ·exact ⟨vsl,ml,hl1,by simpa using hl2⟩
  ·show _↔_;simp
  ·exact ⟨_,mh1,rv⟩
 ·refine fa_cons ?_ (fa_cons ?_ (fa_cons ?_ (fa_cons ?_ (fa_cons ?_ (fa_nil)))))
  ·intro ad had
   rcases List.mem_cons.mp had with e | e
   ·rw [e];exact hdx.1
   ·rw [List.mem_singleton.mp e];exact hdx.2
  ·intro ad had;rw [List.mem_singleton.mp had];exact hde
  ·intro ad had;rw [List.mem_singleton.mp had];exact hls
  ·exact fun _ h=>nomatch h
  ·exact fun _ h=>nomatch h
 ·refine fa_cons ?_ (fa_cons ?_ (fa_cons ?_ (fa_cons ?_ (fa_cons ?_ (fa_nil)))))
  ·exact fun _ h=>nomatch h
  ·intro ad had;rw [List.mem_singleton.mp had];exact ⟨by show de∈[de];simp,hG.1,by simp⟩
  ·intro ad had;rw [List.mem_singleton.mp had];exact ⟨by show ls∈[ls];simp,hG.2,by simp⟩
  ·exact fun _ h=>nomatch h
  ·exact fun _ h=>nomatch h
 ·refine sep_map ?_
  show List.Pairwise SepA [(some ("self" : Str),[x,dx],[]),(none,[de],[de]),(none,[ls],[ls]),(none,[],[]),(some ("item" : Str),[],[])]
  simp [SepA,ap1,ap2,ap3,ap4,ap5,Ne.symm ap1]
  decide
 intro A s₁ Q' E' a hA c rr kk
 change St w (envTk _) _ _ _ _ _ _ at c
 change RR w (envTk _) _ _ _ _ _ _ at rr
 change wpAny _ _ (execs _ (envTk _)) _ _ _
 change ∀ l,A.frames=some l→∃ o,l=envTk _::o at hA
 generalize s.heap.objs.size=L at c rr hA ⊢
 have hitem:∀ {ρ':Rho} {pos},(some ("item" : Str),dat w.params (encS t))∈ρ'→Ev w (envTk L) n [] ρ' (.Name "item" pos) (fun x=>x=encS t):=fun h=>ev_name h rfl
 have pu:∀ {ρ':Rho} {k:Nat} {d:D} {kk p1 p2 p3},(some ("item" : Str),dat w.params (encS t))∈ρ'→(match encS t with | .tup l=>l[k]? | _=>none)=some d→Ev w (envTk L) n [] ρ' (.Subscript (.Name "item" p1) (.Constant (.int (k:Int)) kk p2) p3) (fun x=>x=d):=fun h hd=>pu_tup (hitem h) (by simp) hd
 refine wpAny_execs_cons (st_for (N:=[]) (Pds:=fun l=>l=t.names.map .str) a noN c (ite_tup (pu (k:=2) (d:=.tup (t.names.map .str)) mh4 rfl) fun d h=>⟨_,h,rfl⟩) (fun _ i=>rT w x dx de ls fs rows t i)
  (fun ds G' s' K h c=>c) ?turn ?done)
 case turn=>
  rintro ds i d v' G1 s1 K rfl hd hr c1
  rw [List.getElem?_map] at hd
  obtain ⟨y,hy,rfl⟩:=Option.map_eq_some_iff.mp hd
  have hyl:y.length≤1000:=hs y (List.mem_of_getElem? hy)
  have htk:t.names.take (i+1)=t.names.take i++[y]:=by rw [List.take_add_one,hy];rfl
  have hdr:t.names.drop i=y::t.names.drop (i+1):=by
   have hlt:i < t.names.length:=(List.getElem?_eq_some_iff.mp hy).1
   rw [List.drop_eq_getElem_cons hlt]
   rw [List.getElem?_eq_getElem hlt] at hy
   cases hy;rfl
  refine st_name c1 hr (.skip (by decide) (.skip (by decide) (.skip (by decide) (.skip (by decide) (.skip (by decide) (.skip (by decide) .new)))))) rfl (.inl rfl) fun s2 c2=>?_
  have fct:dupIn (keys rows) t.names↔dupIn (keys rows++t.names.take i) (t.names.drop i):=c2.fact mh4
  rw [hdr] at fct
  have hkeys:keys (rows++(t.names.take i).map (·,t))=keys rows++t.names.take i:=keys_app
  refine st_ifD a noN c2 (p:=y∈keys rows++t.names.take i) (tr_inD (ev_name mh6 rfl) (evd_own (a:=de) (evv_selfat (K:=(inst w.params x dx 257 fs).ro) mh1 rfl rfl B.e1 (by rfl) (by rfl)) mh2 B.big)
   (by rintro _ rfl;exact ⟨y,rfl,by rw [entL_keys,hkeys]⟩)) (fun G3 s3 hin c3=>?_) (fun G3 s3 hin c3=>?_)
  ·
   exact st_raise a c3 (rr.loop hA c3) (hX (.inl (fct.mpr (.inl hin)))) rfl rfl rfl (ev_fstr (all3 (ev_strS (by decide)) (ev_fmtS ((ev_name mh6 rfl).mono fun _ _ _ _ _ ⟨d,r,e⟩=>⟨d,r,y,e,hyl⟩)) (ev_strS (by decide)))) (fun _ h=>h) (pu (k:=1) (d:=.int t.spot) mh5 rfl)
  ·
   refine st_nil (st_setd (a:=de) (x:=y) (d:=encS t) a c3 (evv_selfat (K:=(inst w.params x dx 257 fs).ro) mh1 rfl rfl B.e1 (by rfl) (by rfl)) (.tail (.tail .head)) (hitem mh5) (ev_name mh6 rfl)
    (by rw [entL_keys,hkeys];exact hin) (by simp [entL];omega) fun G4 s4 c4=>?_)
   refine st_app (l:=ls) (P:=fun d=>d=.str y) (Ks:=fun d=>accK w ls ((keys rows++t.names.take i).map .str++[d])) a c4 (evv_selfat (K:=(inst w.params x dx 257 fs).ro) mh1 rfl rfl B.e2 (by rfl) (by rfl)) (fun d=>.tail (.tail (.tail .head))) (fun d=>lkN) (ev_name mh6 rfl) (by simp [keys];omega) ?_
   rintro d G5 s5 rfl c5
   refine st_nil ⟨G5,?_⟩
   have c6:=c5.refact (p':=dupIn (keys rows) t.names↔dupIn (keys rows++t.names.take (i+1)) (t.names.drop (i+1))) (.tail (.tail (.tail (.tail .head)))) (by
    rw [fct,htk,← List.append_assoc]
    exact ⟨fun h=>h.resolve_left hin,.inr⟩)
   have e1:entL (rows++(t.names.take i).map (·,t))++[(y,encS t)]=entL (rows++(t.names.take (i+1)).map (·,t)):=by rw [htk,List.map_append,← List.append_assoc];exact entL_snoc.symm
   have e2:(keys rows++t.names.take i).map D.str++[.str y]=(keys rows++t.names.take (i+1)).map .str:=by rw [htk];simp
   rw [e1,e2] at c6
   exact c6.sub (((List.sublist_append_left [_,_,_,_,_] [_]).cons_cons _))
 case done=>
  rintro ds G1 s1 rfl c1
  have hlen:(t.names.map D.str).length=t.names.length:=by simp
  rw [hlen] at c1
  unfold rT at c1
  rw [List.take_length,List.drop_length] at c1
  have hnd:¬ dupIn (keys rows) t.names:=fun h=>(c1.fact mh3).mp h
  refine st_if a noN c1 (P:=fun b=>b=(!t.sups.isEmpty&&t.abs)) (tr_and (P1:=fun b=>b = !t.sups.isEmpty) (P2:=fun b=>b=t.abs)
   (tr_gt (P1:=fun d=>d=.int t.sups.length) (P2:=fun d=>d=.int 0) (ev_len_tup (evv_blt rfl rfl rfl rfl rfl rfl) (pu (k:=6) (d:=.tup (t.sups.map .str)) mh4 rfl) rfl (fun d h=>⟨_,h,by simp;omega,by simp⟩)) ev_int (by
    rintro _ _ rfl rfl
    refine ⟨_,_,rfl,rfl,?_⟩
    cases t.sups<;>simp))
   (tr_bool ((pu (k:=3) (d:=.bool t.abs) mh4 rfl).mono fun _ _ _ _ _ ⟨d,r,e⟩=>⟨d,r,_,e,rfl⟩)) (by rintro _ _ rfl h;cases hh:t.sups.isEmpty<;>simp [hh] at h ⊢ <;> first | exact h | skip)) ?_
  rintro bb G2 s2 rfl c2
  by_cases hbad:t.sups≠[]∧t.abs=true
  ·rw [if_pos (by simpa using hbad)]
   exact st_raise a c2 (rr c2) (hX (.inr hbad)) rfl rfl rfl (ev_str.mono fun _ _ _ _ _ ⟨d,r,e⟩=>⟨d,r,e⟩) (fun d h=>⟨_,h⟩) (pu (k:=1) (d:=.int t.spot) mh4 rfl)
  ·rw [if_neg (by simpa using hbad)]
   refine st_nil (st_nil (kk .next s2 (k G2 s2 c2.step ?_ fun h=>h.elim hnd hbad)))
   have hi:=c2.vars (some "self",_) (.head _)
   obtain ⟨u,_,hi⟩:=hi
   exact ⟨⟨rfl,hi.2⟩,c2.vars (none,_) mh1,(by
    have:=c2.vars (none,accK w ls _) mh2
    rw [keys_app];exact this),B.e1,B.e2,B.apart,B.big,B.no⟩
end Mine
end
section
namespace Mine
variable {w:World} {env:Env} {n:Nat} {N:List Addr} {ρ:Rho}
variable {x dx de ls:Addr} {fs:List (Str×Value)} {rows:List (Str×Sg)} {ve:Value} {o:PySem.Expr}
theorem tr_and' {x r pos} {P1 P2 P:Bool→Prop} (h1:Tr w env n N ρ x P1) (h2:P1 true→Tr w env n N ρ r P2) (h:∀ a b,P1 a→(a=true→P2 b)→P (a&&b)) :
  Tr w env n N ρ (.BoolOp .And [x,r] pos) P:=fun A G₀ s₀ M G s Q E a b c k'=>
 PyProof.Rows.isTrue_and (h1 A G₀ s₀ M G s _ E a b c fun b1 G1 s1 y1 z1 p1=>by
  cases b1 with
  | false=>exact k' false G1 s1 y1 z1 (h false false p1 fun e=>nomatch e)
  | true=>exact PyProof.Rows.isTrue_and (h2 p1 A G₀ s₀ M G1 s1 _ E a b z1 fun b2 G2 s2 y2 z2 p2=>by
    have y:=y1.trans y2 fun q hq=>.inl hq
    cases b2 with
    | false=>exact k' false G2 s2 y z2 (h true false p1 fun _=>p2)
    | true=>exact PyProof.Rows.isTrue_and_nil (k' true G2 s2 y z2 (h true true p1 fun _=>p2))))
theorem tr_or' {x r pos} {P1 P2 P:Bool→Prop} (h1:Tr w env n N ρ x P1) (h2:P1 false→Tr w env n N ρ r P2) (h:∀ a b,P1 a→(a=false→P2 b)→P (a||b)) :
  Tr w env n N ρ (.BoolOp .Or [x,r] pos) P:=fun A G₀ s₀ M G s Q E a b c k'=>
 PyProof.Rows.isTrue_or (h1 A G₀ s₀ M G s _ E a b c fun b1 G1 s1 y1 z1 p1=>by
  cases b1 with
  | true=>exact k' true G1 s1 y1 z1 (h true true p1 fun e=>nomatch e)
  | false=>exact PyProof.Rows.isTrue_or (h2 p1 A G₀ s₀ M G1 s1 _ E a b z1 fun b2 G2 s2 y2 z2 p2=>by
    have y:=y1.trans y2 fun q hq=>.inl hq
    cases b2 with
    | true=>exact k' true G2 s2 y z2 (h false true p1 fun _=>p2)
    | false=>exact PyProof.Rows.isTrue_or_nil (k' false G2 s2 y z2 (h false false p1 fun _=>p2))))
theorem op_metX {fa:Addr} {fd:FuncData} {body:List Stmt} (ff:FnFacts w fa fd body) {vs:List Value} {ds:List D} {G:Fz} {s:Shared} {X:Int→Prop} {A:Around} {Q:Value→Shared→Prop} {E:Value→Shared→Prop} (xs:List Str) (F:List Kd)
  (hbind:∀ v vs,vs.length=xs.length→bindArgs fd ⟨v::vs,[]⟩=pure ((("self" : Str),v)::xs.zip vs)) (hnd:(("self" : Str)::xs).Nodup) (hkind:∀ y∈("self" : Str)::xs,fd.scope.names.lookup y=some .local∨fd.scope.names.lookup y=some .cell)
  (i:Inn G s.heap) (b:Bs w G) (hs:(inst w.params x dx 257 fs).p (.ref x) G s.heap) (hF:∀ K∈F,K.ow=[]∧K.p .none G s.heap∧∀ a∈K.fp,s.heap.get? a≠none) (r:RepL w.params G vs ds) (hl:ds.length=xs.length)
  (a:AOK (n+1) A) (rx:RX w A [] X s E)
  (h:∀ A s₁ (Q':Flow→Shared→Prop) (E':Value→Shared→Prop),AOK n A→(∀ l,A.frames=some l→∃ o,l=callEnvC fd s.heap.objs.size fa::o)→St w (callEnvC fd s.heap.objs.size fa) G s [] (selfR w x dx fs F++rhoOf w.params xs ds) G s₁→RR w (callEnvC fd s.heap.objs.size fa) G s [] A X E'→
   (∀ f s',Q (match f with | .ret v=>v | _=>.none) s'→Q' f s')→wpAny (model pw w) A (execs body (callEnvC fd s.heap.objs.size fa)) Q' E' s₁):wpAny (model pw w) A (call (.ref fa) (.ref x::vs)) Q E s:=by
 have hvl:vs.length=xs.length:=r.length.trans hl
 have hz:((("self" : Str),Value.ref x)::xs.zip vs).map (·.1)=("self" : Str)::xs:=by rw [List.map_cons,List.map_fst_zip];omega
 obtain ⟨h1,h2⟩:=List.nodup_cons.mp hnd
 have mem:∀ q∈selfR w x dx fs F++rhoOf w.params xs ds,q=(some ("self" : Str),(inst w.params x dx 257 fs).ro)∨(∃ K∈F,q=(none,K))∨q∈rhoOf w.params xs ds:=fun q hq=>by
  rcases List.mem_append.mp hq with hq | hq
  ·rcases List.mem_cons.mp hq with e | hq
   ·exact .inl e
   ·obtain ⟨K,hK,e⟩:=List.mem_map.mp hq
    exact .inr (.inl ⟨K,hK,e.symm⟩)
  ·exact .inr (.inr hq)
 have ow0:∀ q∈selfR w x dx fs F++rhoOf w.params xs ds,q.2.ow=[]:=fun q hq=>by
  rcases mem q hq with e | ⟨K,hK,e⟩ | hq
  ·subst e;rfl
  ·subst e;exact (hF K hK).1
  ·obtain ⟨y,d,v,rfl,h1,h2⟩:=rhoOf_mem r q hq;rfl
 refine op_fnX ff (hbind _ vs hvl) (by rw [hz];exact hnd) (by rw [hz];exact hkind) i b a rx (fun _ h=>nomatch h) (fun q hq=>?_) (fun q hq=>?_) (fun q hq a ha=>by rw [ow0 q hq] at ha;exact nomatch ha) (ro_sep ow0 ?_) h
 ·rcases mem q hq with e | ⟨K,hK,e⟩ | hq
  ·subst e;exact ⟨.ref x,by simp,hs⟩
  ·subst e;exact (hF K hK).2.1
  ·obtain ⟨y,d,v,rfl,h1,h2⟩:=rhoOf_mem r q hq
   exact ⟨v,by simp [h1],h2⟩
 ·rcases mem q hq with e | ⟨K,hK,e⟩ | hq
  ·subst e
   obtain ⟨_,g1,es,m,g2,_⟩:=hs
   intro a ha
   rcases List.mem_cons.mp ha with e | ha
   ·rw [e,g1];exact (fun h=>(nomatch h))
   ·rw [List.mem_singleton.mp ha,g2];exact (fun h=>(nomatch h))
  ·subst e;exact (hF K hK).2.2
  ·obtain ⟨y,d,v,rfl,h1,h2⟩:=rhoOf_mem r q hq;exact fun _ h=>nomatch h
 ·have rs:=rhoOf_sep (P:=w.params) (ds:=ds) h2
  refine List.pairwise_append.mpr ⟨List.pairwise_cons.mpr ⟨fun q hq=>?_,?_⟩,rs.imp fun h=>h.1,fun p hp q hq=>?_⟩
  ·obtain ⟨K,_,e⟩:=List.mem_map.mp hq
   subst e;exact .inr (fun e=>nomatch e)
  ·rw [List.pairwise_map]
   exact List.pairwise_of_forall fun _ _=>.inl rfl
  ·obtain ⟨y,hy,e⟩:=rhoOf_names q hq
   rcases List.mem_cons.mp hp with e1 | hp
   ·subst e1
    refine .inr fun e2=>h1 ?_
    rw [e] at e2
    cases e2
    exact hy
   ·obtain ⟨K,_,e1⟩:=List.mem_map.mp hp
    subst e1;exact .inl rfl
theorem evd_dat {e:PySem.Expr} {ds:List (Str×D)} {a:Addr} (he:EvV w env n N ρ e (.ref a)) (h:(none,(dat w.params (.dct ds)).at (.ref a))∈ρ) (ha:a≠1):EvK w env n N ρ e (fun _=>KDc w ds):=fun A G₀ s₀ M G s Q E aa b c k=>
 he A G₀ s₀ M G s _ E aa b c fun u G1 s1 y1 z1 e=>by
  subst e
  have:=z1.vars _ h
  have hr:Rep w.params G1 (.ref a) (.dct ds):=this
  cases hr with
  | dct hg r kd=>exact k _ G1 s1 y1 z1 ⟨a,rfl,ha,.of (z1.step.inn _ _ hg) r kd⟩
theorem look_of_mem {y:Str} {rows:List (Str×Sg)} (h:y∈keys rows):∃ q,look rows y=some q:=by
 induction rows with
 | nil=>cases h
 | cons p r ih=>
  unfold look at ih ⊢
  by_cases e:p.1=y
  ·exact ⟨p.2,by simp [e]⟩
  ·have:=ih ((List.mem_cons.mp h).elim (fun h=>(e h.symm).elim) id)
   simpa [List.find?_cons,e] using this
theorem mem_of_look {y:Str} {q:Sg} {rows:List (Str×Sg)} (h:look rows y=some q):(y,q)∈rows:=by
 obtain ⟨p,hp,rfl⟩:=Option.map_eq_some_iff.mp h
 have h1:=List.mem_of_find?_eq_some hp
 have h2:=List.find?_some hp
 simp at h2
 rw [← h2];exact h1
noncomputable def envLk (L:Addr):Env:=callEnvC (metFd 2 "look_above" 117) L 118
set_option maxHeartbeats 2000000 in
theorem c_look {y:Str} {t:Sg} {G:Fz} {s:Shared} {vs:List Value} {A:Around} {Q:Value→Shared→Prop} {E:Value→Shared→Prop} {X:Int→Prop} (R:Rd w x dx fs rows (.ref de) G s) (hde:de≠1) (ht:look rows y=some t) (hsm:∀ y t,look rows y=some t→t.sups.length≤1000) (hst:∀ u∈t.up,u.length≤1000) (i:Inn G s.heap) (b:Bs w G)
  (rp:RepL w.params G vs [.str y]) (a:AOK (n+3) A) (r:RX w A [] X s E) (hX:BadRow rows [] (y,t)→X t.spot)
  (k:∀ G' s',Step G s [] G' s'→¬ BadRow rows [] (y,t)→Q .none s') :
  wpAny (model pw w) A (call (.ref 118) (.ref x::vs)) Q E s:=by
 refine op_metX ff_look ["name"] [entK w rows (.ref de)] (bindS1 fun _ _=>rfl) (by decide) (by decide +kernel) i b R.inst R.facts rp rfl a r ?_
 intro A s₁ Q' E' a hA c rr kk
 change St w (envLk _) _ _ _ _ _ _ at c
 change RR w (envLk _) _ _ _ _ _ _ at rr
 change wpAny _ _ (execs _ (envLk _)) _ _ _
 change ∀ l,A.frames=some l→∃ o,l=envLk _::o at hA
 generalize s.heap.objs.size=L at c rr hA ⊢
 have O:∀ {ρ':Rho} {pos},(some ("self" : Str),(inst w.params x dx 257 fs).ro)∈ρ'→(none,entK w rows (.ref de))∈ρ'→Own w (envLk L) (n+2) ρ' (.Name "self" pos) x dx fs rows (.ref de):=fun h1 h2=>⟨⟨_,h1,rfl⟩,evv_self h1 rfl,h2,R.att,R.no,rfl⟩
 have hn:∀ {ρ':Rho} {pos},(some ("name" : Str),dat w.params (.str y))∈ρ'→Ev w (envLk L) (n+2) [] ρ' (.Name "name" pos) (fun d=>d=.str y):=fun h=>ev_name h rfl
 have hup:t.parent≠""→t.parent∈t.up:=fun h=>by unfold Sg.up;rw [if_neg h];simp
 refine wpAny_execs_cons (st_for (n:=n+2) (N:=[]) (Pds:=fun l=>l=t.up.map .str) a noN c (ite_tup (ev_mdirect (O (.head _) mh1) (hn mh2) ht (hsm _ _ ht)) fun d h=>⟨_,h,rfl⟩)
  (fun _ i=>(none,factK (∀ u∈t.up.take i,u∈keys rows))::(selfR w x dx fs [entK w rows (.ref de)]++rhoOf w.params ["name"] [.str y]))
  (fun ds G' s' K h c=>(c.newfact (by simp)).swap) ?turn ?done)
 case turn=>
  rintro ds i d v' G1 s1 K rfl hd hr c1
  rw [List.getElem?_map] at hd
  obtain ⟨u,hu,rfl⟩:=Option.map_eq_some_iff.mp hd
  have htk:t.up.take (i+1)=t.up.take i++[u]:=by rw [List.take_add_one,hu];rfl
  refine st_name c1 hr (.skip (by decide) (.skip (by decide) (.skip (by decide) (.skip (by decide) (.skip (by decide) .new))))) rfl (.inl rfl) fun s2 c2=>?_
  have fct:∀ u∈t.up.take i,u∈keys rows:=c2.fact mh1
  refine st_ifN a noN c2 (p:=u∈keys rows) (tr_notInD (ds:=entL rows) (ev_name mh5 rfl) (evd_dat (evv_selfat (K:=(inst w.params x dx 257 fs).ro) mh2 rfl rfl R.att (by rfl) (by rfl)) mh3 hde)
   (by rintro _ rfl;exact ⟨u,rfl,by rw [entL_keys]⟩)) (fun G3 s3 hin c3=>?neg138) (fun G3 s3 hin c3=>?pos138)
  rotate_left
  ·
   refine st_nil (st_nil ⟨G3,?_⟩)
   refine (c3.refact (p':=∀ u∈t.up.take (i+1),u∈keys rows) (.tail .head) ?_).sub (List.sublist_append_left [_,_,_,_,_] [_])
   intro u' hu'
   rw [htk] at hu'
   rcases List.mem_append.mp hu' with h | h
   ·exact fct u' h
   ·rw [List.mem_singleton.mp h];exact hin
  ·
   exact st_raise a c3 (rr.loop hA c3) (hX (.inl ⟨u,List.mem_of_getElem? hu,hin⟩)) rfl rfl rfl (ev_fstr (all3 (ev_strS (by decide)) (ev_fmtS ((ev_name mh5 rfl).mono fun _ _ _ _ _ ⟨d,r,e⟩=>⟨d,r,u,e,hst u (List.mem_of_getElem? hu)⟩)) (ev_strS (by decide)))) (fun _ h=>h)
    (ev_spot (n:=n+1) (O mh2 mh3) (hn mh4) ht)
 case done=>
  rintro ds G1 s1 rfl c1
  have fct:=c1.fact (.head _)
  rw [List.length_map,List.take_length] at fct
  have O':∀ {pos},Own w (envLk L) (n+2) _ (.Name "self" pos) x dx fs rows (.ref de):=fun {pos}=>O (ρ':=(none,factK (∀ u∈t.up.take (t.up.map D.str).length,u∈keys rows))::(selfR w x dx fs [entK w rows (.ref de)]++rhoOf w.params ["name"] [.str y])) mh1 mh2
  have hn':=fun {pos}=>hn (ρ':=(none,factK (∀ u∈t.up.take (t.up.map D.str).length,u∈keys rows))::(selfR w x dx fs [entK w rows (.ref de)]++rhoOf w.params ["name"] [.str y])) (pos:=pos) mh3
  have hpar:t.parent≠""→∃ q,look rows t.parent=some q:=fun h=>look_of_mem (fct _ (hup h))
  refine st_if a noN c1 (P:=fun b=>b=true↔(t.parent≠""∧∃ q,look rows t.parent=some q∧q.sups≠[])) (tr_and' (P1:=fun b=>b=(t.parent != "")) (P2:=fun b=>t.parent≠""→∃ q,look rows t.parent=some q∧b = !q.sups.isEmpty)
   (tr_ne_str (ev_parent (n:=n+1) O' hn' ht) ev_str (by exact fun _ _ a b=>⟨_,_,a,b,rfl⟩)) (fun hp=>?_) ?_) ?_
  ·have hp':t.parent≠"":=by simpa using hp.symm
   obtain ⟨q,hq⟩:=hpar hp'
   exact tr_bool ((ev_subset (n:=n+1) O' (ev_parent (n:=n+1) O' hn' ht) hq (hsm _ _ hq)).mono fun _ _ _ _ _ ⟨d,r,bb,e,hb⟩=>⟨d,r,bb,e,fun _=>⟨q,hq,hb⟩⟩)
  ·rintro a1 b1 rfl h2
   by_cases hp:t.parent = ""
   ·simp [hp]
   ·obtain ⟨q,hq,e⟩:=h2 (by simpa using hp) hp
    subst e
    simp only [Bool.and_eq_true,bne_iff_ne,ne_eq,hp,not_false_eq_true,true_and]
    constructor
    ·intro h;exact ⟨q,hq,by simpa using h⟩
    ·rintro ⟨q',hq',h⟩;rw [hq] at hq';cases hq';simpa using h
  ·rintro bb G2 s2 hbb c2
   by_cases hbad:t.parent≠""∧∃ q,look rows t.parent=some q∧q.sups≠[]
   ·rw [if_pos (hbb.mpr hbad)]
    exact st_raise a c2 (rr c2) (hX (.inr hbad)) rfl rfl rfl (ev_fstr (all2 (ev_fmtS ((ev_parent (n:=n+1) O' hn' ht).mono fun _ _ _ _ _ ⟨d,r,e⟩=>⟨d,r,_,e,hst _ (hup hbad.1)⟩)) (ev_strS (by decide)))) (fun _ h=>h)
     (ev_spot (n:=n+1) O' hn' ht)
   ·rw [if_neg (fun h=>hbad (hbb.mp h))]
    exact st_nil (st_nil (kk .next s2 (k G2 s2 c2.step fun h=>h.elim (fun ⟨u,h1,h2⟩=>h2 (fct u h1)) hbad)))
end Mine
end
section
namespace Mine
variable {w:World} {env:Env} {n:Nat} {N:List Addr} {ρ:Rho}
variable {x dx de ls:Addr} {fs:List (Str×Value)} {rows:List (Str×Sg)} {ve:Value} {o:PySem.Expr}
theorem St.rejoin {G₀ G G2:Fz} {s₀ s s2:Shared} {M:List Addr} {ρr:Rho} {K1 K2:Kd} (c:St w env G₀ s₀ M ρ G s) (y:Step G s [] G2 s2) (z:St w env G₀ s₀ M ((none,K1)::(none,K2)::ρr) G2 s2) (h1:∀ a∈K1.fp,s.heap.get? a=none) (h2:∀ a∈K2.fp,s.heap.get? a=none) :
  St w env G₀ s₀ M ((none,K1)::(none,K2)::ρ) G2 s2:=by
 have c2:=c.pure y
 have no:∀ K:Kd,(∀ a∈K.fp,s.heap.get? a=none)→(∀ a∈K.ow,a∈K.fp)→∀ q∈ρ,(∀ a∈K.ow,a∉q.2.fp)∧(∀ a∈q.2.ow,a∉K.fp):=fun K hK ho q hq=>
  ⟨fun a ha hm=>(c.fps q hq a hm).1 (hK a (ho a ha)),fun a ha hm=>(c.fps q hq a (c.ows q hq a ha).1).1 (hK a hm)⟩
 have o1:∀ a∈K1.ow,a∈K1.fp:=fun a ha=>(z.ows _ (.head _) a ha).1
 have o2:∀ a∈K2.ow,a∈K2.fp:=fun a ha=>(z.ows _ mh1 a ha).1
 have s12:=(List.pairwise_cons.mp z.sep).1 _ (.head _)
 refine (c2.addF (z.vars _ mh1) (fun a ha=>z.fps _ mh1 a ha) (fun a ha=>z.ows _ mh1 a ha) (no K2 h2 o2)).addF (z.vars _ (.head _)) (fun a ha=>z.fps _ (.head _) a ha) (fun a ha=>z.ows _ (.head _) a ha) fun q hq=>?_
 rcases List.mem_cons.mp hq with e | hq
 ·subst e;exact s12.2
 ·exact no K1 h1 o1 q hq
theorem st_asgComp {xn:Str} {px:Pos} {elt target iter:PySem.Expr} {ifs:List PySem.Expr} {scope:Scope} {cpos pos:Pos} {cl:List (Str×Addr)} {rest:List Stmt} {Pds P:List D→Prop} (ρr ρc:Rho) (ρd:D→Rho) (p:D→Bool) (R:D→D→Prop) {ρ':Addr→List D→Rho}
  {A:Around} {G₀ G:Fz} {s₀ s:Shared} {M:List Addr} {Q:Flow→Shared→Prop} {E:Value→Shared→Prop} (a:AOK n A) (c:St w env G₀ s₀ M ρ G s) (cr:St w env G₀ s₀ M ρr G s)
  (hi:Ite w env n [] ρr iter Pds) (hclos:closureFor scope env=pure cl) (hcell:∀ y∈scope.names,y.2≠.cell) (hkind:scope.kind=.function) (hnames:∀ y∈scope.names,y.2=.local→scope.names.lookup y.1=some .local)
  (hcl:∀ y cc,cl.lookup y=some cc→∃ y',env.cells.lookup y'=some cc) (hclp:cl.Pairwise fun x y=>x.2≠y.2)
  (hcap:Cap [] env scope cl ρr ρc)
  (hasg:∀ C K1 K2 A E G₀ s₀ G s ds d v,AOK n A→Pds ds→d∈ds→Rep w.params G v d→St w (compEnvC scope cl C env) G₀ s₀ [] ((none,K1)::(none,K2)::ρc) G s→
   wpAny (model pw w) A (assign target (compEnvC scope cl C env) v) (fun _ s2=>∃ G2,St w (compEnvC scope cl C env) G₀ s₀ [] ((none,K1)::(none,K2)::ρd d) G2 s2) E s)
  (hsub:∀ d,ρc.Sublist (ρd d))
  (htest:∀ C K1 K2 ds d,Pds ds→d∈ds→TrsN w (compEnvC scope cl C env) n [] ((none,K1)::(none,K2)::ρd d) ifs (p d))
  (helt:∀ C K1 K2 ds d,Pds ds→d∈ds→p d=true→Ev w (compEnvC scope cl C env) n [] ((none,K1)::(none,K2)::ρd d) elt (R d))
  (hP:∀ ds l,Pds ds→ds.length≤1000000∧(All2 R (ds.filter p) l→P l))
  (hu:∀ C ad l,Upd xn (own w.params ad l) ((none,nsK C)::ρ) ((none,nsK C)::ρ' ad l)) (hk:env.scope.kind=.function) (hx:env.kindOf xn=some .local)
  (k:∀ ad l G' s',P l→s₀.heap.get? ad=none→St w env G₀ s₀ M (ρ' ad l) G' s'→wpAny (model pw w) A (execs rest env) Q E s')
  (hs:∀ x,foldedSetIterable iter env x=pure x:=by intro _;rfl) (hsw:swapsWith (.ListComp elt [⟨target,iter,ifs,0⟩] scope cpos) (some (.Name xn px)) pos.line env=pure true:=by rfl) :
  wpAny (model pw w) A (execs (.Assign [.Name xn px] (.ListComp elt [⟨target,iter,ifs,0⟩] scope cpos) pos::rest) env) Q E s:=
 st_comp hu hk hx c k (fun Q' fin=>comp1 (N:=[]) ρc ρd p R a noN cr hi hclos hcell hkind hnames hcl hclp hcap (fun _ h=>nomatch h) hasg hsub htest helt hP
  (fun C Dd acc G2 s2 h1 h2 h3 h4 h5=>fin C Dd acc G2 s2 h1 h2 h3 (c.rejoin h4 h5 (fun a ha=>by rw [List.mem_singleton.mp ha];exact h3) (fun a ha=>by rw [List.mem_singleton.mp ha];exact h2))) hs) hsw
theorem erase_first {left:List (Str×Sg)} {k:Nat} {p:Str×Sg} (h:left[k]? = some p) (nd:(keys left).Nodup):(keys left).erase p.1=keys (left.eraseIdx k):=by
 induction left generalizing k with
 | nil=>simp at h
 | cons q r ih=>
  cases k with
  | zero=>simp at h;subst h;simp [keys]
  | succ k=>
   have nd:=List.nodup_cons.mp (show (q.1::keys r).Nodup from nd)
   have h:r[k]? = some p:=by simpa using h
   have hm:p.1∈keys r:=List.mem_map_of_mem (List.mem_of_getElem? h)
   show (q.1::keys r).erase p.1=q.1::keys (r.eraseIdx k)
   rw [List.erase_cons_tail (by simp;intro e;exact nd.1 (e▸hm)),ih h nd.2]
theorem first_none {g:Str→Bool} {found:List Str} {left:List (Str×Sg)} (hg:∀ p∈left,g p.1=ready found p.2) (h:left.findIdx? (fun p=>ready found p.2)=none):(keys left).filter g=[]:=by
 refine List.filter_eq_nil_iff.mpr fun y hy=>?_
 obtain ⟨p,hp,rfl⟩:=List.mem_map.mp hy
 rw [hg p hp,List.findIdx?_eq_none_iff.mp h p hp]
 exact Bool.false_ne_true
theorem first_some {g:Str→Bool} {found:List Str} {left:List (Str×Sg)} {k:Nat} (hg:∀ p∈left,g p.1=ready found p.2) (h:left.findIdx? (fun p=>ready found p.2)=some k):∃ p tl,left[k]? = some p∧(keys left).filter g=p.1::tl:=by
 induction left generalizing k with
 | nil=>simp at h
 | cons q r ih=>
  rw [List.findIdx?_cons] at h
  show ∃ p tl,(q::r)[k]? = some p∧(q.1::keys r).filter g=p.1::tl
  rw [List.filter_cons,hg q (.head _)]
  cases hr:ready found q.2 with
  | true=>
   rw [hr] at h
   simp at h
   subst h
   exact ⟨q,_,rfl,rfl⟩
  | false=>
   rw [hr] at h
   simp at h
   obtain ⟨j,hj,rfl⟩:=h
   obtain ⟨p,tl,h1,h2⟩:=ih (fun p hp=>hg p (.tail _ hp)) hj
   exact ⟨p,tl,by simpa using h1,by simpa using h2⟩
end Mine
end
section
namespace Mine
variable {w:World} {env:Env} {n:Nat} {N:List Addr} {ρ:Rho}
variable {x dx de ls:Addr} {fs:List (Str×Value)} {rows:List (Str×Sg)} {ve:Value} {o:PySem.Expr}
structure Fine (rows:List (Str×Sg)):Prop where
 nd:(keys rows).Nodup
 sup:∀ p∈rows,p.2.sups.length≤100
 ok:∀ p∈rows,∀ u∈p.2.up,PyData.strOk u=true∧u.length≤1000
 okk:∀ y∈keys rows,PyData.strOk y=true∧y.length≤1000
 len:rows.length≤1000
theorem look_of_nd {rows:List (Str×Sg)} {p:Str×Sg} (nd:(keys rows).Nodup) (h:p∈rows):look rows p.1=some p.2:=by
 induction rows with
 | nil=>cases h
 | cons q r ih=>
  have nd:=List.nodup_cons.mp (show (q.1::keys r).Nodup from nd)
  unfold look at ih ⊢
  rcases List.mem_cons.mp h with e | h
  ·subst e;simp
  ·have:¬ q.1=p.1:=fun e=>nd.1 (by rw [e];exact List.mem_map_of_mem h)
   simpa [List.find?_cons,this] using ih nd.2 h
theorem up_len {t:Sg} (h:t.sups.length≤100):t.up.length≤101:=by unfold Sg.up;split<;>simp<;>exact q1 ‹_›
noncomputable def envPf (L:Addr):Env:=callEnvC (metFd 4 "parents_first" 129) L 130
noncomputable def lstD (w:World) (ls:Addr) (l:List D):Kd:=(dat w.params (.lst l)).at (.ref ls)
noncomputable def pfR (w:World) (x dx de ls:Addr) (fs:List (Str×Value)) (rows:List (Str×Sg)) (a1 a2:Addr) (z:List Str×List (Str×Sg)):Rho:=
 (some ("self" : Str),(inst w.params x dx 257 fs).ro)::(none,entK w rows (.ref de))::(none,lstD w ls ((keys rows).map .str))::(some ("found" : Str),own w.params a1 (z.1.map .str))::(some ("rest" : Str),own w.params a2 ((keys z.2).map .str))::[]
noncomputable def goes (rows:List (Str×Sg)) (found:List Str) (y:Str):Bool:=match look rows y with | some t=>ready found t | none=>false
noncomputable def pD (rows:List (Str×Sg)) (found:List Str):D→Bool
 | .str y=>goes rows found y
 | _=>false
theorem all2_eq {l m:List D} (h:All2 (fun d r=>r=d) l m):m=l:=by have:=h.map (f:=id);simpa using this
theorem St.roAt {G₀ G:Fz} {s₀ s:Shared} {M:List Addr} {nm:Option Str} {K:Kd} {ρ':Rho} (c:St w env G₀ s₀ M ρ G s) (sw:Swap (nm,K) (nm,K.ro) ρ ρ'):St w env G₀ s₀ M ρ' G s:=by
 obtain ⟨r,h1,h2⟩:=sw.perm
 exact ((c.perm h1).kind (K':=K.ro) (fun v h=>h) (fun a h=>h) (fun _ h=>nomatch h)).perm h2.symm
theorem evs_ro {x:Str} {pos:Pos} {a:Addr} {ds:List D} (h:(some x,(own w.params a ds).ro)∈ρ) (hk:env.scope.kind=.function) (hd:(x==("__debug__" : Str))=false:=by decide) (hc:(x==("__classdict__" : Str))=false:=by decide) :
  EvS w env n N ρ (.Name x pos) (fun l=>l=ds):=(evk_name h hk hd hc).mono fun _ _ _ _ _ ⟨e,vs,m,h1,h2⟩=>⟨a,vs,m,ds,e,h1,h2,rfl⟩
set_option maxHeartbeats 4000000 in
theorem c_first {G:Fz} {s:Shared} {A:Around} {Q:Value→Shared→Prop} {E:Value→Shared→Prop} {X:Int→Prop} (R:Rd w x dx fs rows (.ref de) G s) (hst:look fs "stands" = some (.ref ls)) (hls:Rep w.params G (.ref ls) (.lst ((keys rows).map .str))) (hf:Fine rows)
  (i:Inn G s.heap) (b:Bs w G) (a:AOK (n+5) A) (r:RX w A [] X s E) (hX:∀ p tl,(told rows).2=p::tl→X p.2.spot)
  (k:∀ v G' s',Step G s [] G' s'→(told rows).2=[]→KL w (fun l=>l=(told rows).1.map .str) s v G' s'→Q v s') :
  wpAny (model pw w) A (call (.ref 130) [.ref x]) Q E s:=by
 refine op_metX ff_first [] [entK w rows (.ref de),lstD w ls ((keys rows).map .str)] (bindS0 fun _=>rfl) (by decide) (by decide +kernel) i b R.inst (fun K hK=>?_) .nil rfl a r ?_
 ·rcases List.mem_cons.mp hK with e | hK
  ·subst e;exact ⟨rfl,R.rep,fun _ h=>nomatch h⟩
  ·rw [List.mem_singleton.mp hK];exact ⟨rfl,hls,fun _ h=>nomatch h⟩
 intro A s₁ Q' E' a hA c rr kk
 change St w (envPf _) _ _ _ _ _ _ at c
 change RR w (envPf _) _ _ _ _ _ _ at rr
 change wpAny _ _ (execs _ (envPf _)) _ _ _
 change ∀ l,A.frames=some l→∃ o,l=envPf _::o at hA
 generalize s.heap.objs.size=L at c rr hA ⊢
 have O:∀ {env:Env} {ρ':Rho} {pos},env.scope.kind=.function→(some ("self" : Str),(inst w.params x dx 257 fs).ro)∈ρ'→(none,entK w rows (.ref de))∈ρ'→Own w env (n+4) ρ' (.Name "self" pos) x dx fs rows (.ref de):=fun hk h1 h2=>⟨⟨_,h1,rfl⟩,evv_self h1 hk,h2,R.att,R.no,rfl⟩
 refine st_tupB (xs:=["found","rest"]) (P:=fun Ks=>∃ a1 a2,Ks=[own w.params a1 [],own w.params a2 ((keys rows).map .str)]) (ρs:=fun Ks=>match Ks with | [k1,k2]=>(some ("self" : Str),(inst w.params x dx 257 fs).ro)::(none,entK w rows (.ref de))::(none,lstD w ls ((keys rows).map .str))::(some ("found" : Str),k1)::(some ("rest" : Str),k2)::[] | _=>[]) a c
  (trsO_cons (P1:=fun K=>∃ a l,K=own w.params a l∧l=[]) (EvL.o (evl_list (trs_nil rfl))) fun K v ⟨a1,l,e,e2⟩=>trsO_cons (P1:=fun K=>∃ a l,K=own w.params a l∧l=(keys rows).map .str) (EvO.under (EvL.o ?wt)) fun K2 v2 ⟨a2,l2,e3,e4⟩=>trsO_nil ⟨a1,a2,by rw [e,e2,e3,e4]⟩) rfl rfl (Nat.le_of_ble_eq_true rfl) rfl
  (.inl ⟨.name (.inr ⟨rfl,rfl,rfl⟩) (.name (.inl rfl) .nil),rfl,rfl,?_⟩) ?_
 case wt=>exact evl_list_of (evv_blt rfl rfl rfl rfl rfl rfl) (ev_fact (v:=.ref ls) (evv_selfat (K:=(inst w.params x dx 257 fs).ro) (.head _) rfl rfl hst (by rfl) (by rfl)) mh2) rfl (fun v G s i ⟨d,r,e⟩=>by
   subst e
   replace r:=r.inv;obtain ⟨ad,vs,m,rfl,hg,r⟩:=r
   exact ⟨ad,_,vs,m,_,rfl,i _ _ hg,.inl rfl,r,by simp [keys];have:=hf.len;exact q1 ‹_›,rfl⟩)
 ·rintro Ks ⟨a1,a2,rfl⟩
  exact .cons (.skip (by decide) (.skip (by decide) (.skip (by decide) .new))) (.cons (.skip (by decide) (.skip (by decide) (.skip (by decide) (.skip (by decide) .new)))) .nil)
 rintro Ks G1 s1 ⟨a1,a2,rfl⟩ c1
 refine st_while (N:=[]) (X:=List Str×List (Str×Sg)) a noN (fun z=>z.2.length) (fun z=>toldF z.2.length z.1 z.2=told rows∧(∀ p∈z.2,p∈rows)∧(keys z.2).Nodup∧(∀ y∈z.1,y∈keys rows)∧z.1.length+z.2.length=rows.length)
  (pfR w x dx de ls fs rows a1 a2) (fun z=>!z.2.isEmpty) ([],rows) c1 ⟨rfl,fun _ h=>h,hf.nd,(fun _ h=>nomatch h),by simp⟩ ?_ ?_ ?_
 ·rintro ⟨f,left⟩ ⟨_,_,_,_,hb⟩
  have hb':left.length≤1000:=by have:=hf.len;simp only at hb;omega
  refine tr_gt (P1:=fun d=>d=.int left.length) (ev_lenS (evv_blt rfl rfl rfl rfl rfl rfl) (evs_own (x:="rest") (a:=a2) (ds:=(keys left).map .str) mh4 rfl) rfl fun l h=>⟨by rw [h];simp [keys];exact q1 ‹_›,by rw [h];simp [keys]⟩) ev_int ?_
  rintro _ _ rfl rfl
  refine ⟨_,_,rfl,rfl,?_⟩
  cases left<;>simp
 ·rintro ⟨f,left⟩ G2 s2 ⟨ht,hsb,hnd,hfk,hb⟩ hne c2
  have hb':left.length≤1000∧f.length≤1000:=by have:=hf.len;simp only at hb;omega
  have hgo:∀ p∈left,goes rows f p.1=ready f p.2:=fun p hp=>by unfold goes;rw [look_of_nd hf.nd (hsb p hp)]
  have cr:=c2.roAt (.tail (.tail (.tail (.tail .head))))
  have hne21:∀ q∈(some ("self" : Str),(inst w.params x dx 257 fs).ro)::(none,entK w rows (.ref de))::(none,lstD w ls ((keys rows).map .str))::(some ("found" : Str),own w.params a1 (f.map .str))::(some ("rest" : Str),(own w.params a2 ((keys left).map .str)).ro)::[],a2∉q.2.ow:=by
   have sp:=(List.pairwise_cons.mp (List.pairwise_cons.mp (List.pairwise_cons.mp (List.pairwise_cons.mp c2.sep).2).2).2).1 _ (.head _)
   refine fa_cons ?_ (fa_cons ?_ (fa_cons ?_ (fa_cons ?_ (fa_cons ?_ fa_nil))))
   ·exact fun h=>nomatch h
   ·exact fun h=>nomatch h
   ·exact fun h=>nomatch h
   ·exact sp.2.2 a2 (by show a2∈[a2];simp)
   ·exact fun h=>nomatch h
  refine st_asgComp (n:=n+4) (Pds:=fun ds=>ds=(keys left).map .str) (P:=fun l=>l=((keys left).filter (goes rows f)).map .str) (cl:=[("self",L+1),("found",L+2)]) _
   ((some ("self" : Str),(inst w.params x dx 257 fs).ro)::(none,entK w rows (.ref de))::(some ("found" : Str),(own w.params a1 (f.map .str)).ro)::[])
   (fun d=>(some ("self" : Str),(inst w.params x dx 257 fs).ro)::(none,entK w rows (.ref de))::(some ("found" : Str),(own w.params a1 (f.map .str)).ro)::(some ("name" : Str),dat w.params d)::[])
   (pD rows f) (fun d r=>r=d) (ρ':=fun ad l=>pfR w x dx de ls fs rows a1 a2 (f,left)++[(some ("able" : Str),own w.params ad l)]) a c2 cr
   (ite_name (x:="rest") (K:=(own w.params a2 ((keys left).map .str)).ro) (ad:=a2) (ds:=(keys left).map .str) mh4 (fun v G h hh=>hh) (by show a2∈[a2];simp) hne21 rfl rfl)
   rfl (by decide) rfl (by decide) ?hcl ?hclp ?hcap ?hasg (fun d=>List.sublist_append_left [_,_,_] [_]) ?htest ?helt ?hP ?hu rfl rfl ?kk
  case hcl=>
   intro y cc h
   simp only [List.lookup_cons,List.lookup_nil] at h
   split at h
   ·cases h;exact ⟨"self",rfl⟩
   ·split at h
    ·cases h;exact ⟨"found",rfl⟩
    ·cases h
  case hclp=>simp
  case hcap=>exact .var (.inl rfl) rfl (by first | exact .inl rfl | exact .inr rfl) (.fact (.drop (.var (.inl rfl) rfl (by first | exact .inl rfl | exact .inr rfl) (.drop .nil))))
  case hasg=>
   rintro C K1 K2 A E G₀ s₀ G s ds d v aa rfl hd hr cc
   exact st_name cc hr (.skip (by decide) (.skip (by decide) (.skip (by decide) (.skip (by decide) (.skip (by decide) .new))))) rfl (.inl rfl) fun s' c'=>⟨_,c'⟩
  case htest=>
   rintro C K1 K2 ds d rfl hd
   obtain ⟨y,hy,rfl⟩:=List.mem_map.mp hd
   obtain ⟨p,hp,rfl⟩:=List.mem_map.mp hy
   have hlk:=look_of_nd hf.nd (hsb p hp)
   have hup:=up_len (hf.sup p (hsb p hp))
   refine .one (tr_eqR (P1:=fun d=>d=.lst ((p.2.up.filter fun u=>!decide (u∈f)).map .str)) (P2:=fun d=>d=.lst []) (EvS.r (P:=fun l=>l=(p.2.up.filter fun u=>!decide (u∈f)).map .str) 1 (EvL.evs ?inner) (fun l h=>by
     subst h
     exact ⟨strs_flat (fun u hu=>(hf.ok p (hsb p hp) u (List.mem_filter.mp hu).1).1) 1,rfl⟩)) (EvS.r (P:=fun l=>l=[]) 1 (EvL.evs (evl_list (trs_nil rfl))) (fun l h=>by subst h;exact ⟨rfl,rfl⟩)) ?_)
   case inner=>
    refine evl_comp1 (Pds:=fun ds=>ds=p.2.up.map .str) (cl:=[("found",L+2)]) ((some ("found" : Str),(own w.params a1 (f.map .str)).ro)::[]) (fun d=>(some ("found" : Str),(own w.params a1 (f.map .str)).ro)::(some ("other" : Str),dat w.params d)::[])
     (fun d=>match d with | .str u=>!decide (u∈f) | _=>false) (fun d r=>r=d)
     (ite_tup (ev_mdirect (n:=n+2) (O rfl mh2 mh3) (ev_name mh5 rfl) hlk (by have:=hf.sup p (hsb p hp);exact q1 ‹_›)) fun d h=>⟨_,h,rfl⟩)
     rfl (by decide) rfl (by decide) ?_ (fun _=>by simp) (.drop (.drop (.drop (.drop (.var (by first | exact .inl rfl | exact .inr rfl) rfl (by first | exact .inl rfl | exact .inr rfl) (.drop .nil)))))) (fun _ h=>nomatch h) ?_ (fun d=>List.sublist_append_left [_] [_]) ?_ ?_ ?_
    ·intro y cc h
     simp only [List.lookup_cons,List.lookup_nil] at h
     split at h
     ·cases h;exact ⟨"found",rfl⟩
     ·cases h
    ·rintro C K1 K2 A E G₀ s₀ G s ds d v aa rfl hd hr cc
     exact st_name cc hr (.skip (by decide) (.skip (by decide) (.skip (by decide) .new))) rfl (.inl rfl) fun s' c'=>⟨_,c'⟩
    ·rintro C K1 K2 ds d rfl hd
     obtain ⟨u,hu,rfl⟩:=List.mem_map.mp hd
     exact .one (tr_notIn (P1:=fun d=>d=.str u) (P2:=fun ss=>ss=f) (ev_name mh3 rfl) (EvS.ss (evs_ro (x:="found") (a:=a1) (ds:=f.map .str) mh2 rfl) fun l h=>⟨f,h,fun y hy=>(hf.okk y (hfk y hy)).1,rfl⟩) (by rintro _ _ rfl rfl;exact ⟨u,rfl,(hf.ok p (hsb p hp) u hu).1,rfl⟩))
    ·rintro C K1 K2 ds d rfl hd hpd
     exact ev_name mh3 rfl
    ·rintro ds l rfl
     refine ⟨by simp;exact q1 ‹_›,fun h=>?_⟩
     rw [all2_eq h,List.filter_map];rfl
   ·rintro _ _ rfl rfl
    show PyData.eqvAll _ _=goes rows f p.1
    rw [toPys,eqv_nil,hgo p hp]
    unfold ready
    rw [Bool.eq_iff_iff]
    simp
  case helt=>
   rintro C K1 K2 ds d rfl hd hpd
   exact ev_name mh5 rfl
  case hP=>
   rintro ds l rfl
   refine ⟨by simp [keys];omega,fun h=>?_⟩
   rw [all2_eq h,List.filter_map];rfl
  case hu=>
   intro C ad l
   exact .skip (fun e=>nomatch e) (.skip (by decide) (.skip (by decide) (.skip (by decide) (.skip (by decide) (.skip (by decide) .new)))))
  case kk=>
   rintro ad l G3 s3 rfl hnew c3
   have hal:((keys left).filter (goes rows f)).length≤1000:=by have:=List.length_filter_le (goes rows f) (keys left);simp only [keys,List.length_map] at this ⊢;omega
   have hable:∀ {ρ':Rho},(some ("able" : Str),own w.params ad (((keys left).filter (goes rows f)).map .str))∈ρ'→∀ {pos},EvS w (envPf L) (n+4) [] ρ' (.Name "able" pos) (fun l=>l=((keys left).filter (goes rows f)).map .str):=fun h=>evs_own (x:="able") h rfl
   obtain ⟨p0,left',rfl⟩:∃ p0 left',left=p0::left':=by cases left with
    | nil=>simp at hne
    | cons p r=>exact ⟨p,r,rfl⟩
   refine st_if a noN c3 (P:=fun b=>b=decide ((keys (p0::left')).filter (goes rows f)=[])) (tr_eq_int (P1:=fun d=>d=.int ((keys (p0::left')).filter (goes rows f)).length) (P2:=fun d=>d=.int 0) (ev_lenS (evv_blt rfl rfl rfl rfl rfl rfl) (hable mh5) rfl fun l h=>⟨by rw [h];simp only [List.length_map];exact q1 ‹_›,by rw [h];simp only [List.length_map]⟩) ev_int (by
    rintro _ _ rfl rfl
    refine ⟨_,_,rfl,rfl,?_⟩
    rw [Bool.eq_iff_iff]
    simp [List.length_eq_zero_iff,- List.filter_eq_nil_iff])) ?_
   rintro bb G4 s4 rfl c4
   have h0:∀ {ρ':Rho} {p1 kk p2 p3},(some ("rest" : Str),own w.params a2 ((keys (p0::left')).map .str))∈ρ'→Ev w (envPf L) (n+4) [] ρ' (.Subscript (.Name "rest" p1) (.Constant (.int 0) kk p2) p3) (fun d=>d=.str p0.1):=fun h=>
    ev_sub_lstS (P1:=fun l=>l=(keys (p0::left')).map .str) (P2:=fun d=>d=.int 0) (evs_own h rfl) ev_int (by rintro _ _ rfl rfl;exact ⟨0,_,rfl,by simp [keys] at hb' ⊢;omega,by exact qd,rfl,rfl⟩)
   have hin0:p0∈rows:=hsb p0 (.head _)
   cases hfi:(p0::left').findIdx? (fun p=>ready f p.2) with
   | none=>
    have hnil:=first_none hgo hfi
    rw [if_pos (by simpa using hnil)]
    have htold:told rows=(f,p0::left'):=by
     rw [← ht]
     show toldF (left'.length+1) f (p0::left')=_
     unfold toldF
     rw [hfi]
    exact st_raise a c4 (rr.loop hA c4) (hX p0 left' (by rw [htold])) rfl rfl rfl (ev_fstr (all3 (ev_strS (by decide)) (ev_fmtS ((h0 mh4).mono fun _ _ _ _ _ ⟨d,r,e⟩=>⟨d,r,p0.1,e,(hf.okk p0.1 (List.mem_map_of_mem hin0)).2⟩)) (ev_strS (by decide)))) (fun _ h=>h)
     (ev_spot (n:=n+3) (O rfl (.head _) mh1) (h0 mh4) (look_of_nd hf.nd hin0))
   | some j=>
    obtain ⟨p,tl,hj,hfl⟩:=first_some hgo hfi
    have hpl:p∈p0::left':=List.mem_of_getElem? hj
    have hj2:j < (p0::left').length:=(List.getElem?_eq_some_iff.mp hj).1
    rw [hfl] at c4 hal hable ⊢
    rw [if_neg (by simp)]
    have ha0:∀ {ρ':Rho} {p1 kk p2 p3},(some ("able" : Str),own w.params ad ((p.1::tl).map .str))∈ρ'→Ev w (envPf L) (n+4) [] ρ' (.Subscript (.Name "able" p1) (.Constant (.int 0) kk p2) p3) (fun d=>d=.str p.1):=fun h=>
     ev_sub_lstS (P1:=fun l=>l=(p.1::tl).map .str) (P2:=fun d=>d=.int 0) (hable h) ev_int (by rintro _ _ rfl rfl;exact ⟨0,_,rfl,by simp at hal ⊢;exact q1 ‹_›,by exact qd,rfl,rfl⟩)
    refine st_nil (st_app (o:=.Name "found" _) (l:=a1) (ds:=f.map .str) (Ks:=fun d=>own w.params a1 (f.map .str++[d])) (P:=fun d=>d=.str p.1) a c4 (evv_own mh3 rfl) (fun d=>.tail (.tail (.tail .head))) (fun d=>lkO) (ha0 mh5) (by simp;omega) ?_)
    rintro d G5 s5 rfl c5
    refine st_rem (o:=.Name "rest" _) (l:=a2) (ss:=keys (p0::left')) (y:=p.1) (K':=own w.params a2 (((keys (p0::left')).erase p.1).map .str)) a c5 (evv_own mh4 rfl) (.tail (.tail (.tail (.tail .head)))) lkO (by simp [keys] at hb' ⊢;omega) (ha0 mh5) (List.mem_map_of_mem hpl) fun G6 s6 c6=>?_
    rw [erase_first hj hnd] at c6
    have e1:f.map D.str++[.str p.1]=(f++[p.1]).map .str:=by simp
    rw [e1] at c6
    have hel:((p0::left').eraseIdx j).length=left'.length:=by rw [List.length_eraseIdx_of_lt hj2];rfl
    refine st_nil ⟨(f++[p.1],(p0::left').eraseIdx j),G6,by show ((p0::left').eraseIdx j).length < (p0::left').length;rw [hel];simp,⟨?_,fun q hq=>hsb q (List.mem_of_mem_eraseIdx hq),?_,?_,?_⟩,c6.sub (List.sublist_append_left [_,_,_,_,_] [_])⟩
    ·rw [← ht]
     show toldF ((p0::left').eraseIdx j).length (f++[p.1]) ((p0::left').eraseIdx j)=toldF (left'.length+1) f (p0::left')
     rw [hel]
     conv=>rhs;unfold toldF
     rw [hfi]
     dsimp only
     rw [hj];rfl
    ·show (keys ((p0::left').eraseIdx j)).Nodup
     rw [← erase_first hj hnd]
     exact hnd.erase _
    ·intro y hy
     rcases List.mem_append.mp hy with h | h
     ·exact hfk y h
     ·rw [List.mem_singleton.mp h];exact List.mem_map_of_mem (hsb p hpl)
    ·show (f++[p.1]).length+((p0::left').eraseIdx j).length=rows.length
     rw [hel]
     simp only [List.length_append,List.length_cons,List.length_nil] at hb ⊢
     omega
 ·rintro ⟨f,left⟩ G2 s2 ⟨ht,hsb,hnd,hfk,hb⟩ hne c2
  have:left=[]:=by simpa using hne
  subst this
  have ht':told rows=(f,[]):=ht.symm
  refine st_retO (x:="found") (a1:=a1) (l:=f.map .str) a c2 mh3 (fun h=>nomatch h) rfl fun v G' s' z hv=>?_
  exact kk (.ret v) s' (k _ _ _ z.step (by rw [ht']) (by rw [ht'];exact hv))
end Mine
end
section
namespace Mine
variable {w:World} {env:Env} {n:Nat} {N:List Addr} {ρ:Rho}
variable {x dx de ls lo:Addr} {fs:List (Str×Value)} {rows:List (Str×Sg)} {ve:Value} {o:PySem.Expr}
noncomputable def nodeD:D:=.tup [.str "name",.int 0,.str "A"]
noncomputable def encFd (f:Fd):D:=.tup [.str f.field,.str f.name,.str "",nodeD,.int f.spot,.int f.group]
noncomputable def fdOf (g:Nat) (nm:Str) (d:Dc) (f:Str):Fd:=⟨f,nm,d.spot,if d.disj then (g:Int) else -1⟩
noncomputable def declsAt (rows:List (Str×Sg)) (nm:Str):List Dc:=match look rows nm with | some t=>t.decls | none=>[]
theorem declsOf_snoc {rows:List (Str×Sg)} {l:List Str} {nm:Str}:declsOf rows (l++[nm])=declsOf rows l++(declsAt rows nm).map (nm,·):=by
 unfold declsOf declsAt
 rw [List.flatMap_append]
 congr 1
 simp only [List.flatMap_cons,List.flatMap_nil,List.append_nil]
 cases look rows nm<;>rfl
theorem groupsUp_append {a b:List (Str×Dc)}:groupsUp (a++b)=groupsUp a+groupsUp b:=by simp [groupsUp]
theorem numbered_len:∀ {g:Nat} {a b:List (Str×Dc)},(numbered g a).length≤(numbered g (a++b)).length:=by
 intro g a b
 rw [numbered_append];simp
noncomputable def envAf (L:Addr):Env:=callEnvC (metFd 5 "all_fields" 136) L 137
noncomputable def afR (w:World) (x dx de lo:Addr) (fs:List (Str×Value)) (rows:List (Str×Sg)) (order:List Str) (a1:Addr) (found:List D) (g:Nat) (tl:Rho):Rho:=
 (some ("self" : Str),(inst w.params x dx 257 fs).ro)::(none,entK w rows (.ref de))::(none,lstD w lo (order.map .str))::(some ("group" : Str),dat w.params (.int (g:Int)))::(some ("found" : Str),own w.params a1 found)::tl
set_option maxHeartbeats 4000000 in
theorem c_allf {order:List Str} {G:Fz} {s:Shared} (R:Rd w x dx fs rows (.ref de) G s) (hor:look fs "ordered" = some (.ref lo)) (hlo:Rep w.params G (.ref lo) (.lst (order.map .str))) (hok:∀ y∈order,∃ t,look rows y=some t)
  (hlen:(numbered 0 (declsOf rows order)).length≤10000) (hd:∀ p∈rows,p.2.decls.length≤1000∧∀ d∈p.2.decls,d.fields.length≤1000) (hol:order.length≤1000) (i:Inn G s.heap) (b:Bs w G) :
  Op w (n+1) [] G s (call (.ref 137) [.ref x]) (KL w (fun l=>l=(numbered 0 (declsOf rows order)).map encFd) s):=by
 refine op_met ff_allf [] [entK w rows (.ref de),lstD w lo (order.map .str)] (bindS0 fun _=>rfl) (by decide) (by decide +kernel) i b R.inst (fun K hK=>?_) .nil rfl ?_
 ·rcases List.mem_cons.mp hK with e | hK
  ·subst e;exact ⟨rfl,R.rep,fun _ h=>nomatch h⟩
  ·rw [List.mem_singleton.mp hK];exact ⟨rfl,hlo,fun _ h=>nomatch h⟩
 rintro env A s₁ Q E he a c k
 change env=envAf _ at he
 generalize s.heap.objs.size=L at he
 subst he
 refine st_tupB (xs:=["found","group"]) (P:=fun Ks=>∃ a1,Ks=[own w.params a1 [],dat w.params (.int 0)]) (ρs:=fun Ks=>match Ks with | [k1,k2]=>(some ("self" : Str),(inst w.params x dx 257 fs).ro)::(none,entK w rows (.ref de))::(none,lstD w lo (order.map .str))::(some ("group" : Str),k2)::(some ("found" : Str),k1)::[] | _=>[]) a c
  (trsO_cons (P1:=fun K=>∃ a l,K=own w.params a l∧l=[]) (EvL.o (evl_list (trs_nil rfl))) fun K v ⟨a1,l,e,e2⟩=>trsO_cons (P1:=fun K=>∃ d,K=dat w.params d∧d=.int 0) (EvO.under (Ev.o (ev_int (k:=0) (pos:=⟨73,28,73,29⟩)))) fun K2 v2 ⟨d2,e3,e4⟩=>trsO_nil ⟨a1,by rw [e,e2,e3,e4]⟩) rfl rfl (Nat.le_of_ble_eq_true rfl) rfl
  (.inr ⟨.bind (.inl rfl) (.bind (.inl rfl) .nil),rfl,?_⟩) ?_
 ·rintro Ks ⟨a1,rfl⟩
  exact .cons (.skip (by decide) (.skip (by decide) (.skip (by decide) .new))) (.cons (.skip (by decide) (.skip (by decide) (.skip (by decide) (.skip (by decide) .new)))) .nil)
 rintro Ks G1 s1 ⟨a1,rfl⟩ c1
 refine wpAny_execs_cons (st_for (N:=[]) (Pds:=fun l=>l=order.map .str) a noN c1 (ite_lst (ev_fact (v:=.ref lo) (evv_selfat (K:=(inst w.params x dx 257 fs).ro) (.head _) rfl rfl hor (by rfl) (by rfl)) mh2) fun d h=>⟨_,h,rfl⟩)
  (fun _ i=>afR w x dx de lo fs rows order a1 ((numbered 0 (declsOf rows (order.take i))).map encFd) (groupsUp (declsOf rows (order.take i))) []) (fun ds G' s' K h c=>c) ?turn ?done)
 case done=>
  rintro ds G2 s2 rfl c2
  rw [List.length_map,List.take_length] at c2
  refine st_retO (x:="found") (a1:=a1) (l:=(numbered 0 (declsOf rows order)).map encFd) a c2 mh4 (fun h=>nomatch h) rfl fun v G' s' z hv=>k _ _ _ z.step hv
 case turn=>
  rintro ds i d v' G2 s2 K rfl hdi hr c2
  rw [List.getElem?_map] at hdi
  obtain ⟨y,hy,rfl⟩:=Option.map_eq_some_iff.mp hdi
  obtain ⟨t,ht⟩:=hok y (List.mem_of_getElem? hy)
  have htk:order.take (i+1)=order.take i++[y]:=by rw [List.take_add_one,hy];rfl
  have hda:declsAt rows y=t.decls:=by unfold declsAt;rw [ht]
  obtain ⟨hd1,hd2⟩:=hd _ (mem_of_look ht)
  refine st_name c2 hr (.skip (fun e=>nomatch e) (.skip (by decide) (.skip (by decide) (.skip (by decide) (.skip (by decide) (.skip (by decide) .new)))))) rfl (.inl rfl) fun s3 c3=>?_
  have hfull:∀ j,(numbered 0 (declsOf rows (order.take i)++(t.decls.take j).map (y,·))).length≤10000:=fun j=>by
   have h1:declsOf rows order=declsOf rows (order.take i)++((t.decls.take j).map (y,·)++((t.decls.drop j).map (y,·)++declsOf rows (order.drop (i+1)))):=by
    conv=>lhs;rw [← List.take_append_drop (i+1) order]
    have:declsOf rows (order.take (i+1)++order.drop (i+1))=declsOf rows (order.take (i+1))++declsOf rows (order.drop (i+1)):=by unfold declsOf;rw [List.flatMap_append]
    rw [this,htk,declsOf_snoc,hda]
    simp only [List.append_assoc]
    rw [← List.append_assoc (List.map (fun x=>(y,x)) (List.take j t.decls)),← List.map_append,List.take_append_drop]
   rw [h1,← List.append_assoc] at hlen
   exact Nat.le_trans numbered_len hlen
  refine wpAny_execs_cons (st_for (N:=[]) (Pds:=fun l=>l=t.decls.map encDc) a noN c3 (ite_tup (ev_col (k:=7) mh1 mh2 rfl R.att rfl (ev_name mh6 rfl) ht (fun _ _ _ h=>nomatch h) _ rfl (by simp) rfl) fun d h=>⟨_,h,rfl⟩)
   (fun _ j=>(none,K)::afR w x dx de lo fs rows order a1 ((numbered 0 (declsOf rows (order.take i)++(t.decls.take j).map (y,·))).map encFd) (groupsUp (declsOf rows (order.take i)++(t.decls.take j).map (y,·))) [(some ("name" : Str),dat w.params (.str y))]) (fun ds G' s' K h c=>by simp only [List.take_zero,List.map_nil,List.append_nil];exact c) ?turn2 ?done2)
  case done2=>
   rintro ds G4 s4 rfl c4
   rw [List.length_map,List.take_length,← hda,← declsOf_snoc,← htk] at c4
   refine st_nil ⟨G4,c4.sub (((List.sublist_append_left [_,_,_,_,_] [_]).cons_cons _))⟩
  case turn2=>
   rintro ds j d v2 G4 s4 K2 rfl hdj hr2 c4
   rw [List.getElem?_map] at hdj
   obtain ⟨dd,hdd,rfl⟩:=Option.map_eq_some_iff.mp hdj
   have htk2:t.decls.take (j+1)=t.decls.take j++[dd]:=by rw [List.take_add_one,hdd];rfl
   have hfl:=hd2 dd (List.mem_of_getElem? hdd)
   have hf1:=hfull (j+1)
   rw [htk2,List.map_append,← List.append_assoc] at hf1 ⊢
   generalize hB:declsOf rows (order.take i)++(t.decls.take j).map (y,·)=B at c4 hf1 ⊢
   rw [numbered_append,groupsUp_append]
   rw [numbered_append] at hf1
   simp only [Nat.zero_add] at hf1 ⊢
   generalize hg:groupsUp B=g at c4 hf1 ⊢
   generalize hA:numbered 0 B=acc at c4 hf1 ⊢
   have hnum:numbered g (List.map (y,·) [dd])=dd.fields.map (fdOf g y dd):=by simp [numbered,fdOf]
   have hgu:groupsUp (List.map (y,·) [dd])=if dd.disj then 1 else 0:=by simp [groupsUp]
   rw [hnum] at hf1 ⊢
   rw [hgu]
   have hf2:acc.length+dd.fields.length≤10000:=by simpa using hf1
   refine asg_tup (xs:=["spot","is_disj","fields","mult","node"]) a.2.2 c4 hr2 rfl (.cons (.skip (fun e=>nomatch e) (.skip (fun e=>nomatch e) (.skip (by decide) (.skip (by decide) (.skip (by decide) (.skip (by decide) (.skip (by decide) (.skip (by decide) (.new))))))))) (.cons (.skip (fun e=>nomatch e) (.skip (fun e=>nomatch e) (.skip (by decide) (.skip (by decide) (.skip (by decide) (.skip (by decide) (.skip (by decide) (.skip (by decide) (.skip (by decide) (.new)))))))))) (.cons (.skip (fun e=>nomatch e) (.skip (fun e=>nomatch e) (.skip (by decide) (.skip (by decide) (.skip (by decide) (.skip (by decide) (.skip (by decide) (.skip (by decide) (.skip (by decide) (.skip (by decide) (.new))))))))))) (.cons (.skip (fun e=>nomatch e) (.skip (fun e=>nomatch e) (.skip (by decide) (.skip (by decide) (.skip (by decide) (.skip (by decide) (.skip (by decide) (.skip (by decide) (.skip (by decide) (.skip (by decide) (.skip (by decide) (.new)))))))))))) (.cons (.skip (fun e=>nomatch e) (.skip (fun e=>nomatch e) (.skip (by decide) (.skip (by decide) (.skip (by decide) (.skip (by decide) (.skip (by decide) (.skip (by decide) (.skip (by decide) (.skip (by decide) (.skip (by decide) (.skip (by decide) (.new))))))))))))) (.nil)))))) (.name (.inl rfl) (.name (.inl rfl) (.name (.inl rfl) (.name (.inl rfl) (.name (.inl rfl) .nil))))) rfl rfl fun s5 c5=>?_
   refine wpAny_execs_cons (st_for (N:=[]) (Pds:=fun l=>l=dd.fields.map .str) a noN c5 (ite_tup (ev_name mh10 rfl) fun d h=>⟨_,h,rfl⟩)
    (fun _ l=>(none,K2)::(none,K)::afR w x dx de lo fs rows order a1 ((acc++(dd.fields.take l).map (fdOf g y dd)).map encFd) g [(some ("name" : Str),dat w.params (.str y)),(some ("spot" : Str),dat w.params (.int dd.spot)),(some ("is_disj" : Str),dat w.params (.bool dd.disj)),(some ("fields" : Str),dat w.params (.tup (dd.fields.map .str))),(some ("mult" : Str),dat w.params (.str "")),(some ("node" : Str),dat w.params nodeD)])
    (fun ds G' s' K h c=>by simp only [List.take_zero,List.map_nil,List.append_nil];exact c) ?turn3 ?done3)
   case turn3=>
    rintro ds l d v3 G6 s6 K3 rfl hdl hr3 c6
    rw [List.getElem?_map] at hdl
    obtain ⟨ff,hff,rfl⟩:=Option.map_eq_some_iff.mp hdl
    have htk3:dd.fields.take (l+1)=dd.fields.take l++[ff]:=by rw [List.take_add_one,hff];rfl
    have hl:l < dd.fields.length:=(List.getElem?_eq_some_iff.mp hff).1
    refine st_name c6 hr3 (.skip (fun e=>nomatch e) (.skip (fun e=>nomatch e) (.skip (fun e=>nomatch e) (.skip (by decide) (.skip (by decide) (.skip (fun e=>nomatch e) (.skip (fun e=>nomatch e) (.skip (by decide) (.skip (by decide) (.skip (by decide) (.skip (by decide) (.skip (by decide) (.skip (by decide) (.skip (by decide) (.new))))))))))))))) rfl (.inl rfl) fun s7 c7=>?_
    refine st_app (o:=.Name "found" _) (l:=a1) (ds:=(acc++(dd.fields.take l).map (fdOf g y dd)).map encFd) (Ks:=fun d=>own w.params a1 ((acc++(dd.fields.take l).map (fdOf g y dd)).map encFd++[d])) (P:=fun d=>d=encFd (fdOf g y dd ff)) a c7 (evv_own mh7 rfl) (fun d=>.tail (.tail (.tail (.tail (.tail (.tail (.tail .head))))))) (fun d=>lkO)
     (ev_tupEq (trs_eq (ev_name mh14 rfl) (trs_eq (ev_name mh8 rfl) (trs_eq (ev_name mh12 rfl) (trs_eq (ev_name mh13 rfl) (trs_eq (ev_name mh9 rfl) (trs_eq ?grp (trs_nil rfl))))))) (ht:=rfl) (hsz:=Nat.le_of_ble_eq_true rfl)) (by simp;omega) ?_
    case grp=>
     refine ev_if (P1:=fun b=>b=dd.disj) (tr_bool ((ev_name (d:=.bool dd.disj) mh10 rfl).mono fun _ _ _ _ _ ⟨d,r,e⟩=>⟨d,r,_,e,rfl⟩)) (fun h=>?_) (fun h=>?_)
     ·have h':dd.disj=true:=h.symm
      refine EvK.mono (ev_name (d:=.int (g:Int)) mh6 rfl) fun _ _ _ _ _ ⟨d,r,e⟩=>⟨d,r,?_⟩
      rw [e];simp [fdOf,h']
     ·have h':dd.disj=false:=h.symm
      refine EvK.mono ev_neg1 fun _ _ _ _ _ ⟨d,r,e⟩=>⟨d,r,?_⟩
      rw [e];simp [fdOf,h']
    rintro d G8 s8 rfl c8
    have e1:(acc++(dd.fields.take l).map (fdOf g y dd)).map encFd++[encFd (fdOf g y dd ff)]=(acc++(dd.fields.take (l+1)).map (fdOf g y dd)).map encFd:=by rw [htk3];simp
    rw [e1] at c8
    exact st_nil ⟨G8,c8.sub (List.sublist_append_left [_,_,_,_,_,_,_,_,_,_,_,_,_,_] [_])⟩
   case done3=>
    rintro ds G6 s6 rfl c6
    rw [List.length_map,List.take_length] at c6
    refine st_asg (P:=fun d=>d=.int ((g+(if dd.disj then 1 else 0):Nat):Int)) a noN c6 (ev_add_int (P1:=fun d=>d=.int (g:Int)) (P2:=fun d=>d=.int (if dd.disj then 1 else 0)) (ev_name mh5 rfl) ?inc (by exact fun _ _ a b=>⟨_,_,a,b,by cases dd.disj<;>simp⟩)) (ρ':=fun d=>(none,K2)::(none,K)::(some ("self" : Str),(inst w.params x dx 257 fs).ro)::(none,entK w rows (.ref de))::(none,lstD w lo (order.map .str))::(some ("group" : Str),dat w.params d)::(some ("found" : Str),own w.params a1 ((acc++dd.fields.map (fdOf g y dd)).map encFd))::[(some ("name" : Str),dat w.params (.str y)),(some ("spot" : Str),dat w.params (.int dd.spot)),(some ("is_disj" : Str),dat w.params (.bool dd.disj)),(some ("fields" : Str),dat w.params (.tup (dd.fields.map .str))),(some ("mult" : Str),dat w.params (.str "")),(some ("node" : Str),dat w.params nodeD)])
     (fun d=>.skip (fun e=>nomatch e) (.skip (fun e=>nomatch e) (.skip (by decide) (.skip (fun e=>nomatch e) (.skip (fun e=>nomatch e) .hit))))) rfl (.inl rfl) ?_
    case inc=>
     refine ev_if (P1:=fun b=>b=dd.disj) (tr_bool ((ev_name (d:=.bool dd.disj) mh9 rfl).mono fun _ _ _ _ _ ⟨d,r,e⟩=>⟨d,r,_,e,rfl⟩)) (fun h=>?_) (fun h=>?_)
     ·have h':dd.disj=true:=h.symm
      exact EvK.mono ev_int fun _ _ _ _ _ ⟨d,r,e⟩=>⟨d,r,by rw [e,h'];rfl⟩
     ·have h':dd.disj=false:=h.symm
      exact EvK.mono ev_int fun _ _ _ _ _ ⟨d,r,e⟩=>⟨d,r,by rw [e,h'];rfl⟩
    rintro d G7 s7 rfl c7
    exact st_nil ⟨G7,c7.sub (List.sublist_append_left [_,_,_,_,_,_,_,_] [_,_,_,_,_])⟩
end Mine
end
section
namespace Mine
variable {w:World} {env:Env} {n:Nat} {N:List Addr} {ρ:Rho}
variable {x dx de ls lo:Addr} {fs:List (Str×Value)} {rows:List (Str×Sg)} {ve:Value} {o:PySem.Expr}
theorem Reach.mono {up:Str→List Str} {ws vs:List Str} {y:Str} (h:Reach up ws y) (k:∀ z∈ws,Reach up vs z):Reach up vs y:=by
 induction h with
 | here h=>exact k _ h
 | on _ h ih=>exact .on ih h
theorem AbR.mem {up:Str→List Str} {f ws r:List Str} (h:AbR up f ws r):(∀ z∈f,∀ y∈up z,y∈f∨y∈ws)→∀ y,y∈r↔y∈f∨Reach up ws y:=by
 induction h with
 | done=>
  intro _ y
  refine ⟨.inl,fun h=>h.resolve_right fun h=>?_⟩
  have:∀ {ws y},Reach up ws y→ws=[]→False:=fun h=>by
   induction h with
   | here h=>rintro rfl;cases h
   | on _ _ ih=>exact ih
  exact this h rfl
 | @old f o ws r ho _ ih=>
  intro hc y
  rw [ih (fun z hz y hy=>(hc z hz y hy).elim .inl fun h=>(List.mem_cons.mp h).elim (fun e=>.inl (e▸ho)) .inr) y]
  ·constructor
   ·exact fun h=>h.imp id fun h=>h.mono fun z hz=>.here (.tail _ hz)
   ·rintro (h | h)
    ·exact .inl h
    ·induction h with
     | here h=>
      rcases List.mem_cons.mp h with e | h
      ·exact .inl (e▸ho)
      ·exact .inr (.here h)
     | on h1 h2 ih2=>
      rcases ih2 with h | h
      ·rcases hc _ h _ h2 with h | h
       ·exact .inl h
       ·rcases List.mem_cons.mp h with e | h
        ·exact .inl (e▸ho)
        ·exact .inr (.here h)
      ·exact .inr (.on h h2)
 | @new f o ws r ho _ ih=>
  intro hc y
  rw [ih (fun z hz y hy=>?_) y]
  ·constructor
   ·rintro (h | h)
    ·rcases List.mem_append.mp h with h | h
     ·exact .inl h
     ·rw [List.mem_singleton.mp h];exact .inr (.here (.head _))
    ·refine .inr (h.mono fun z hz=>?_)
     rcases List.mem_append.mp hz with h | h
     ·exact .here (.tail _ h)
     ·exact .on (.here (.head _)) h
   ·rintro (h | h)
    ·exact .inl (List.mem_append.mpr (.inl h))
    ·induction h with
     | here h=>
      rcases List.mem_cons.mp h with e | h
      ·exact .inl (by rw [e];simp)
      ·exact .inr (.here (List.mem_append.mpr (.inl h)))
     | on h1 h2 ih2=>
      rcases ih2 with h | h
      ·rcases List.mem_append.mp h with h | h
       ·rcases hc _ h _ h2 with h | h
        ·exact .inl (List.mem_append.mpr (.inl h))
        ·rcases List.mem_cons.mp h with e | h
         ·exact .inl (by rw [e];simp)
         ·exact .inr (.here (List.mem_append.mpr (.inl h)))
       ·rw [List.mem_singleton.mp h] at h2
        exact .inr (.here (List.mem_append.mpr (.inr h2)))
      ·exact .inr (.on h h2)
  ·rcases List.mem_append.mp hz with h | h
   ·rcases hc z h y hy with h | h
    ·exact .inl (List.mem_append.mpr (.inl h))
    ·rcases List.mem_cons.mp h with e | h
     ·exact .inl (by rw [e];simp)
     ·exact .inr (List.mem_append.mpr (.inl h))
   ·rw [List.mem_singleton.mp h] at hy
    exact .inr (List.mem_append.mpr (.inr hy))
theorem AbR.above {r:List Str} {y:Str} {t:Sg} (ht:look rows y=some t) (h:AbR (upOf rows) [] t.up r):∀ z,z∈r↔Above rows y z:=fun z=>by
 rw [h.mem (fun _ h=>nomatch h) z]
 unfold Above
 have:upOf rows y=t.up:=by unfold upOf;rw [ht]
 rw [this]
 simp
theorem evl_mabove {e:PySem.Expr} {apos pos:Pos} {y:Str} {t:Sg} (O:Own w env (n+3) ρ o x dx fs rows ve) (he:Ev w env (n+3) [] ρ e (fun d=>d=.str y)) (hc:Clo rows) (ht:look rows y=some t) (hs:backTo pos (starEach [e] env)=[(false,eval e env)]:=by rfl)
  (hbase:attributeBase o "all_above" env (eval o env)=eval o env:=by rfl) (hline:(apos.endLine==pos.line)=true:=by rfl):EvL w env (n+3) [] ρ (.Call (.Attribute o "all_above" apos) [e] [] pos) (fun l=>∃ r,l=r.map .str∧AbR (upOf rows) [] t.up r):=
 evk_self (PA:=fun l=>l=[.str y]) ff_above O (trs1 he (fun _ h=>by rw [h])) (fun _ _ _ _ _ x h=>x.early h) (fun G s vs ds R i b _ r p=>by subst p;exact c_mabove R hc ht i b r) (by decide) (by rfl) hs (.inr ⟨_,_,rfl⟩) (by rfl) (by rfl) hbase hline
noncomputable def KeyAt (w:World) (G:Fz) (z:List Str×Addr×Value):Prop:=∃ vs n,G z.2.1=some (tupO vs n)∧ItemsAre (sk w) z.1 vs.toList
noncomputable def seenK (w:World) (a:Addr) (ks:List (List Str)):Kd:=
 ⟨fun v G h=>v=.ref a∧a≠1∧∃ (es:Array DictEntry) (ep:Nat) (xs:List (List Str×Addr×Value)),h.get? a=some (dctO es ep)∧es.toList=xs.map (entryOfKey (tupleKind (sk w)))∧(∀ z∈xs,KeyAt w G z)∧(xs.map (·.1)).Nodup∧xs.map (·.1)=ks,[a],[a],
  fun hl he x=>by obtain ⟨h0,h1,es,ep,xs,h2,h3,h4,h5⟩:=x;exact ⟨h0,h1,es,ep,xs,he a (.head _) _ h2,h3,fun z hz=>by obtain ⟨vs,n,e,r⟩:=h4 z hz;exact ⟨vs,n,hl _ _ e,r⟩,h5⟩⟩
theorem items_of {G:Fz} {ss:List Str}:∀ {vs:List Value},RepL w.params G vs (ss.map .str)→ItemsAre (sk w) ss vs:=by
 induction ss with
 | nil=>
  intro vs h
  obtain ⟨_,rfl⟩:=h.inv
  exact .nil
 | cons x ss ih=>
  intro vs h
  obtain ⟨v,l,rfl,h1,h2⟩:=h.inv
  obtain ⟨t,rfl⟩:=h1.inv
  exact .cons (strKind_is pw w x t) (ih h2)
theorem seen_at {a:Addr} {ks:List (List Str)} {v:Value} {G:Fz} {h:Heap} (i:Inn G h) (p:(seenK w a ks).p v G h):∃ xs,h.DictOfH (tupleKind (sk w)) a xs∧(∀ z∈xs,KeyAt w G z)∧xs.map (·.1)=ks:=by
 obtain ⟨h0,h1,es,ep,xs,h2,h3,h4,h5,h6⟩:=p
 exact ⟨xs,⟨_,es,ep,h2,⟨rfl,rfl,rfl⟩,rfl,h3,fun z hz=>let ⟨vs,n,e,r⟩:=h4 z hz;⟨_,vs,n,i _ _ e,rfl,rfl,r⟩,h5⟩,h4,h6⟩
theorem atKey_some {xs:List (List Str×Addr×Value)} {k:List Str}:(atKey xs k).isSome=decide (k∈xs.map (·.1)):=by
 unfold atKey
 rw [Option.isSome_map,Bool.eq_iff_iff,List.find?_isSome]
 simp [eq_comm]
theorem tr_inS {l:PySem.Expr} {x:Str} {px pos} {a:Addr} {ks:List (List Str)} {ss:List Str} (hl:Ev w env n [] ρ l (fun d=>d=.tup (ss.map .str))) (h:(some x,seenK w a ks)∈ρ) (hk:env.scope.kind=.function) (hd:(x==("__debug__" : Str))=false:=by decide) (hc:(x==("__classdict__" : Str))=false:=by decide) :
  Tr w env n [] ρ (.Compare l [.In] [.Name x px] pos) (fun b=>b=decide (ss∈ks)):=
 tr_cmp (K2:=fun v G s=>(seenK w a ks).p v G s.heap) (hm:=by rfl) hl (evk_name h hk hd hc) KD.step fun G s v1 v2 i _ ⟨d1,r1,p1⟩ q2=>by
  subst p1
  obtain ⟨xs,hD,hK,hks⟩:=seen_at i q2
  obtain ⟨rfl,ha,_⟩:=q2
  obtain ⟨ad,vs,m,rfl,hg,r⟩:=r1.inv
  ·
   refine fun A Q E aok k=>wpAny_in_heap (knd:=tupleKind (sk w)) (k:=ss) (by show A.units+1 < cLine;have:=aok.u;omega) ⟨_,vs,m,i _ _ hg,rfl,rfl,items_of r⟩ (by show (a==1)=false;simpa using ha) hD ?_
   rw [atKey_some,hks]
   exact k _ G _ (Step.tk i _) ⟨_,.bool _,_,rfl,rfl⟩
theorem st_seen {x:Str} {px dp pos:Pos} {rest:List Stmt} {ρ':Addr→Rho} {A:Around} {G₀ G:Fz} {s₀ s:Shared} {M:List Addr} {Q:Flow→Shared→Prop} {E:Value→Shared→Prop} (a:AOK n A) (c:St w env G₀ s₀ M ρ G s) (hu:∀ ad,Upd x (seenK w ad []) ρ (ρ' ad)) (hk:env.scope.kind=.function) (hx:env.kindOf x=some .local)
  (k:∀ ad G' s',St w env G₀ s₀ M (ρ' ad) G' s'→wpAny (model pw w) A (execs rest env) Q E s') (hs:swapsWith (.Dict [] [] dp) (some (.Name x px)) pos.line env=pure false:=by rfl) :
  wpAny (model pw w) A (execs (.Assign [.Name x px] (.Dict [] [] dp) pos::rest) env) Q E s:=by
 refine wpAny_execs_cons (wpAny_Assign_Name (wpAny_Dict_empty ?_) hs)
 have y:=Step.push (N:=[]) c.step.inn (dctO #[] 0) s.toks
 have c2:=c.pure y
 have hn:=fresh_size s.heap
 have hgn:G s.heap.objs.size=none:=by
  cases q:G s.heap.objs.size with
  | none=>rfl
  | some o=>have:=c.step.inn _ _ q;rw [hn] at this;cases this
 have ho:({s with heap:=s.heap.push (dctO #[] 0)}:Shared).heap.get? s.heap.objs.size=some (dctO #[] 0):=Heap.get?_push_size _ rfl
 have hbig:s.heap.objs.size≠1:=by
  have:(353:Nat) < s.heap.objs.size:=Heap.lt_size (c.bs.K 353 _ rfl)
  intro q
  have q:(s.heap.objs.size:Nat)=1:=q
  omega
 have ne:∀ b,s.heap.get? b≠none→s.heap.objs.size≠b:=fun b hb e=>hb (e▸hn)
 refine c2.store hk (.inl hx) (hu _) ⟨rfl,hbig,#[],0,[],ho,rfl,(fun _ h=>nomatch h),.nil,rfl⟩ (fun b hb=>?_) (fun b hb=>?_) (fun q hq _=>⟨fun b hb hm=>?_,fun b hb hm=>?_⟩) fun s2 c3=>k _ _ s2 c3
 ·rw [List.mem_singleton.mp hb]
  exact ⟨by rw [ho];exact (fun h=>(nomatch h)),ne _ c.frL,fun y' cc hm=>ne _ (c.frC hm)⟩
 ·rw [List.mem_singleton.mp hb]
  exact ⟨by show _∈[_];simp,hgn,.inr (Classical.byContradiction fun q=>c.step.dom _ q hn)⟩
 ·rw [List.mem_singleton.mp hb] at hm
  exact (c.fps q hq _ hm).1 hn
 ·rw [List.mem_singleton.mp hm] at hb
  exact (c.fps q hq _ (c.ows q hq _ hb).1).1 hn
theorem st_sets {x:Str} {px p1 pos:Pos} {i e:PySem.Expr} {rest:List Stmt} {A:Around} {G₀ G:Fz} {s₀ s:Shared} {M:List Addr} {Q:Flow→Shared→Prop} {E:Value→Shared→Prop} {ad:Addr} {ks:List (List Str)} {ss:List Str} {P:D→Prop} {ρ':Rho} (a:AOK n A) (c:St w env G₀ s₀ M ρ G s)
  (sw:Swap (some x,seenK w ad ks) (some x,seenK w ad (ks++[ss])) ρ ρ') (he:Ev w env n [] ρ e P) (hi:Ev w env n [] ρ i (fun d=>d=.tup (ss.map .str))) (hnew:ss∉ks) (hlen:ks.length≤100000) (hk:env.scope.kind=.function)
  (k:∀ G' s',St w env G₀ s₀ M ρ' G' s'→wpAny (model pw w) A (execs rest env) Q E s') (hd:(x==("__debug__" : Str))=false:=by decide) (hc:(x==("__classdict__" : Str))=false:=by decide) (hs:swapsWith e (some (.Subscript (.Name x px) i p1)) pos.line env=pure false:=by rfl) :
  wpAny (model pw w) A (execs (.Assign [.Subscript (.Name x px) i p1] e pos::rest) env) Q E s:=
 wpAny_execs_cons (wpAny_Assign_Subscript (he A G₀ s₀ M G s _ E a noN c fun v1 G1 s1 y1 c1 ⟨d1,r1,e1⟩=>evk_name sw.mem hk hd hc A G₀ s₀ M G1 s1 _ E a noN c1 fun v2 G2 s2 y2 c2 q2=>hi A G₀ s₀ M G2 s2 _ E a noN c2 fun v3 G3 s3 y3 c3 ⟨d3,r3,e3⟩=>by
  subst e3
  obtain ⟨u,_,hp⟩:=c3.vars _ sw.mem
  obtain ⟨xs,hD,hK,hks⟩:=seen_at c3.step.inn hp
  have hv2:v2=.ref ad:=q2.1
  subst hv2
  obtain ⟨_,hbig,_⟩:=hp
  have hlx:xs.length≤sizeLine:=by
   have:xs.length=ks.length:=by rw [← hks];simp
   rw [sizeLine_eq];exact qk ‹_› ‹_›
  obtain ⟨at_,vs,m,rfl,hg,r⟩:=r3.inv
  ·
   refine wpAny_setItem_heap (knd:=tupleKind (sk w)) (k:=ss) (by show A.units+1 < cLine;have:=a.u;omega) ⟨_,vs,m,c3.step.inn _ _ hg,rfl,rfl,items_of r⟩ hD (fun h' hD' hsb=>?_) hlx
   have hnone:atKey xs ss=none:=by
    have h1:=atKey_some (xs:=xs) (k:=ss)
    rw [hks] at h1
    cases q:atKey xs ss with
    | none=>rfl
    | some p=>rw [q] at h1;simp [hnew] at h1
   rw [storedH_new hnone] at hD'
   obtain ⟨o',es',ep',g1,⟨x1,x2,x3⟩,g3,g4,g5,g6⟩:=hD'
   obtain ⟨oc,od,odt,osl⟩:=o'
   dsimp only at x1 x2 x3 g3
   subst x1 x2 x3 g3
   refine k G3 _ (c3.chgAt sw (I:=ad) (h':=h') (by show ad∈[ad];simp) (fun b o hb e=>(hsb.2 b hb).trans e) (by rw [g1];exact fun h=>nomatch h) rfl rfl (fun v hv=>⟨hv.1,hbig,es',ep',_,g1,g4,fun z hz=>?_,g6,by simp [hks]⟩) _)
   rcases List.mem_append.mp hz with h | h
   ·exact hK z h
   ·rw [List.mem_singleton.mp h]
    exact ⟨vs,m,hg,items_of r⟩) hs)
end Mine
end
section
namespace Mine
variable {w:World} {env:Env} {n:Nat} {N:List Addr} {ρ:Rho}
variable {x dx de ls lo lf:Addr} {fs:List (Str×Value)} {rows:List (Str×Sg)} {ve:Value} {o:PySem.Expr}
theorem AbR.len {f ws r:List Str} (h:AbR (upOf rows) f ws r) (hc:Clo rows):(∀ u∈ws,∃ t,look rows u=some t)→r.length≤f.length+mu rows f ws:=by
 induction h with
 | done=>intro _;exact qa
 | @old f o ws r ho _ ih=>
  intro hw
  have:=ih fun u hu=>hw u (.tail _ hu)
  have h2:mu rows f ws≤mu rows f (o::ws):=by unfold mu;simp
  omega
 | @new f o ws r ho _ ih=>
  intro hw
  obtain ⟨t,ht⟩:=hw o (.head _)
  have hu:upOf rows o=t.up:=by unfold upOf;rw [ht]
  rw [hu] at ih
  have:=ih fun u hu=>(List.mem_append.mp hu).elim (fun h=>hw u (.tail _ h)) fun h=>hc.ups o t ht u h
  have h2:=mu_new (f:=f) (ws:=ws) ht ho
  simp only [List.length_append,List.length_cons,List.length_nil] at this
  omega
theorem mu_up {y:Str} {t:Sg} (hc:Clo rows) (ht:look rows y=some t):mu rows [] t.up≤20000:=by
 rw [mu_nil]
 have h1:=hc.small
 have:∀ rows:List (Str×Sg),look rows y=some t→t.up.length+1≤((rows.map fun p=>p.2.up.length+1).sum):=by
  intro rows
  induction rows with
  | nil=>intro h;cases h
  | cons p rows ih=>
   intro h
   unfold look at h
   simp only [List.map_cons,List.sum_cons]
   by_cases q:p.1=y
   ·simp [q] at h;rw [h];exact qa
   ·have:=ih (by unfold look;simpa [List.find?_cons,q] using h);omega
 have:=this rows ht
 omega
theorem Good.first {α:Type} {Bad:List α→α→Prop} {l:List α} {i:Nat} {f:α} (h:Good Bad (l.take i)) (hi:l[i]? = some f) (hb:Bad (l.take i) f):First Bad l f:=by
 have hlt:i < l.length:=(List.getElem?_eq_some_iff.mp hi).1
 refine ⟨l.take i,l.drop (i+1),?_,h,hb⟩
 conv=>lhs;rw [← List.take_append_drop i l]
 rw [List.drop_eq_getElem_cons hlt]
 rw [List.getElem?_eq_getElem hlt] at hi
 cases hi;rfl
noncomputable def keyF (f:Fd):List Str:=[f.field,f.name]
theorem mem_keyF {pre:List Fd} {a b:Str}:[a,b]∈pre.map keyF↔∃ q∈pre,q.field=a∧q.name=b:=by simp [keyF]
noncomputable def envLf (L:Addr):Env:=callEnvC (metFd 6 "look_fields" 143) L 144
noncomputable def lfR (w:World) (x dx de lf:Addr) (fs:List (Str×Value)) (rows:List (Str×Sg)) (own:List Fd) (ad:Addr) (ks:List (List Str)) (tl:Rho):Rho:=
 (some ("self" : Str),(inst w.params x dx 257 fs).ro)::(none,entK w rows (.ref de))::(none,lstD w lf (own.map encFd))::(some ("seen" : Str),seenK w ad ks)::tl
noncomputable def fdVars (w:World) (f:Fd):Rho:=[(some ("field" : Str),dat w.params (.str f.field)),(some ("name" : Str),dat w.params (.str f.name)),(some ("mult" : Str),dat w.params (.str "")),(some ("node" : Str),dat w.params nodeD),(some ("spot" : Str),dat w.params (.int f.spot)),(some ("group" : Str),dat w.params (.int f.group))]
set_option maxHeartbeats 4000000 in
theorem c_lookf {own:List Fd} {G:Fz} {s:Shared} {A:Around} {Q:Value→Shared→Prop} {E:Value→Shared→Prop} {X:Int→Prop} (R:Rd w x dx fs rows (.ref de) G s) (hde:de≠1) (how:look fs "own_fields" = some (.ref lf)) (hlf:Rep w.params G (.ref lf) (.lst (own.map encFd))) (hc:Clo rows)
  (hok:∀ f∈own,(∃ t,look rows f.name=some t)∧f.field.length≤1000∧f.name.length≤1000) (hlen:own.length≤10000) (i:Inn G s.heap) (b:Bs w G) (a:AOK (n+4) A) (r:RX w A [] X s E) (hX:∀ f,First (BadField rows) own f→X f.spot)
  (k:∀ G' s',Step G s [] G' s'→Good (BadField rows) own→Q .none s') :
  wpAny (model pw w) A (call (.ref 144) [.ref x]) Q E s:=by
 refine op_metX ff_lookf [] [entK w rows (.ref de),lstD w lf (own.map encFd)] (bindS0 fun _=>rfl) (by decide) (by decide +kernel) i b R.inst (fun K hK=>?_) .nil rfl a r ?_
 ·rcases List.mem_cons.mp hK with e | hK
  ·subst e;exact ⟨rfl,R.rep,fun _ h=>nomatch h⟩
  ·rw [List.mem_singleton.mp hK];exact ⟨rfl,hlf,fun _ h=>nomatch h⟩
 intro A s₁ Q' E' a hA c rr kk
 change St w (envLf _) _ _ _ _ _ _ at c
 change RR w (envLf _) _ _ _ _ _ _ at rr
 change wpAny _ _ (execs _ (envLf _)) _ _ _
 change ∀ l,A.frames=some l→∃ o,l=envLf _::o at hA
 generalize s.heap.objs.size=L at c rr hA ⊢
 have rr2:RR w (envLf L) G s [] A X (EFor w A (envLf L) E'):=fun c=>rr.loop hA c
 refine st_seen a c (ρ':=fun ad=>lfR w x dx de lf fs rows own ad [] []) (fun ad=>.skip (by decide) (.skip (by decide) (.skip (by decide) .new))) rfl rfl fun ad G1 s1 c1=>?_
 refine wpAny_execs_cons (st_for (N:=[]) (Pds:=fun l=>l=own.map encFd) a noN c1 (ite_lst (ev_fact (v:=.ref lf) (evv_selfat (K:=(inst w.params x dx 257 fs).ro) (.head _) rfl rfl how (by rfl) (by rfl)) mh2) fun d h=>⟨_,h,rfl⟩)
  (fun _ i=>(none,factK (Good (BadField rows) (own.take i)))::lfR w x dx de lf fs rows own ad ((own.take i).map keyF) []) (fun ds G' s' K h c=>(c.newfact (by simpa using Good.nil)).swap) ?turn ?done)
 case done=>
  rintro ds G2 s2 rfl c2
  have fct:=c2.fact (.head _)
  rw [List.length_map,List.take_length] at fct
  exact st_nil (kk .next s2 (k G2 s2 c2.step fct))
 case turn=>
  rintro ds i d v' G2 s2 K rfl hdi hr c2
  rw [List.getElem?_map] at hdi
  obtain ⟨f,hf,rfl⟩:=Option.map_eq_some_iff.mp hdi
  obtain ⟨⟨t,ht⟩,hf1,hf2⟩:=hok f (List.mem_of_getElem? hf)
  have htk:own.take (i+1)=own.take i++[f]:=by rw [List.take_add_one,hf];rfl
  have hpl:(own.take i).length≤10000:=by rw [List.length_take];exact q3 ‹_›
  have hgood:=c2.fact mh1
  refine asg_tup (xs:=["field","name","mult","node","spot","group"]) (ρ':=(none,K)::(none,factK (Good (BadField rows) (own.take i)))::lfR w x dx de lf fs rows own ad ((own.take i).map keyF) (fdVars w f)) a.2.2 c2 hr rfl (.cons (.skip (fun e=>nomatch e) (.skip (fun e=>nomatch e) (.skip (by decide) (.skip (by decide) (.skip (by decide) (.skip (by decide) (.new))))))) (.cons (.skip (fun e=>nomatch e) (.skip (fun e=>nomatch e) (.skip (by decide) (.skip (by decide) (.skip (by decide) (.skip (by decide) (.skip (by decide) (.new)))))))) (.cons (.skip (fun e=>nomatch e) (.skip (fun e=>nomatch e) (.skip (by decide) (.skip (by decide) (.skip (by decide) (.skip (by decide) (.skip (by decide) (.skip (by decide) (.new))))))))) (.cons (.skip (fun e=>nomatch e) (.skip (fun e=>nomatch e) (.skip (by decide) (.skip (by decide) (.skip (by decide) (.skip (by decide) (.skip (by decide) (.skip (by decide) (.skip (by decide) (.new)))))))))) (.cons (.skip (fun e=>nomatch e) (.skip (fun e=>nomatch e) (.skip (by decide) (.skip (by decide) (.skip (by decide) (.skip (by decide) (.skip (by decide) (.skip (by decide) (.skip (by decide) (.skip (by decide) (.new))))))))))) (.cons (.skip (fun e=>nomatch e) (.skip (fun e=>nomatch e) (.skip (by decide) (.skip (by decide) (.skip (by decide) (.skip (by decide) (.skip (by decide) (.skip (by decide) (.skip (by decide) (.skip (by decide) (.skip (by decide) (.new)))))))))))) (.nil))))))) (.name (.inl rfl) (.name (.inl rfl) (.name (.inl rfl) (.name (.inl rfl) (.name (.inl rfl) (.name (.inl rfl) .nil)))))) rfl rfl fun s3 c3=>?_
  refine st_ifD a noN c3 (p:=f.field∈keys rows) (tr_inD (ds:=entL rows) (ev_name (d:=.str f.field) mh6 rfl) (evd_dat (evv_selfat (K:=(inst w.params x dx 257 fs).ro) mh2 rfl rfl R.att (by rfl) (by rfl)) mh3 hde)
   (by rintro _ rfl;exact ⟨f.field,rfl,by rw [entL_keys]⟩)) (fun G4 s4 hin c4=>?_) (fun G4 s4 hin c4=>?_)
  ·
   exact st_raise a c4 (rr.loop hA c4) (hX f (hgood.first hf (.inl hin))) rfl rfl rfl (ev_fstr (all3 (ev_strS (by decide)) (ev_fmtS ((ev_name (d:=.str f.field) mh6 rfl).mono fun _ _ _ _ _ ⟨d,r,e⟩=>⟨d,r,_,e,hf1⟩)) (ev_strS (by decide)))) (fun _ h=>h) (ev_name (d:=.int f.spot) mh10 rfl)
  ·
   have hmu:=mu_up hc ht
   refine st_nil (wpAny_execs_cons (st_for (n:=n+3) (N:=[]) (Pds:=fun l=>∃ r,l=(f.name::r).map .str∧AbR (upOf rows) [] t.up r) a noN c4
    (ite_lst (EvL.ev (evl_add (P1:=fun l=>l=[.str f.name]) (P2:=fun l=>∃ r,l=r.map .str∧AbR (upOf rows) [] t.up r) (EvL.evs (evl_list (trs1 (ev_name (d:=.str f.name) mh7 rfl) (fun d h=>by rw [h])))) (EvL.evs (evl_mabove (n:=n) ⟨⟨_,mh2,rfl⟩,evv_self mh2 rfl,mh3,R.att,R.no,rfl⟩ (ev_name (d:=.str f.name) mh7 rfl) hc ht))
     (by
      rintro _ _ rfl ⟨r,rfl,hr⟩
      have:=hr.len hc (fun u hu=>hc.ups _ _ ht u hu)
      simp only [List.length_map,List.length_cons,List.length_nil] at this ⊢
      exact ⟨by omega,r,by simp,hr⟩))) fun d h=>h)
    (fun l j=>(none,factK (∀ z∈l.take j,∀ o,z=D.str o→[f.field,o]∉(own.take i).map keyF))::(none,K)::(none,factK (Good (BadField rows) (own.take i)))::lfR w x dx de lf fs rows own ad ((own.take i).map keyF) (fdVars w f))
    (fun ds G' s' K h c=>(c.newfact (by simp)).swap) ?turn2 ?done2))
   case turn2=>
    rintro ds j d v2 G5 s5 K2 ⟨r,rfl,har⟩ hdj hr2 c5
    have hdj0:=hdj
    rw [List.getElem?_map] at hdj
    obtain ⟨o,ho,rfl⟩:=Option.map_eq_some_iff.mp hdj
    have htk2:((f.name::r).map D.str).take (j+1)=((f.name::r).map D.str).take j++[.str o]:=by rw [List.take_add_one,hdj0];rfl
    have fct2:=c5.fact mh1
    refine st_name c5 hr2 (.skip (fun e=>nomatch e) (.skip (fun e=>nomatch e) (.skip (fun e=>nomatch e) (.skip (fun e=>nomatch e) (.skip (by decide) (.skip (by decide) (.skip (by decide) (.skip (by decide) (.skip (by decide) (.skip (by decide) (.skip (by decide) (.skip (by decide) (.skip (by decide) (.skip (by decide) (.new))))))))))))))) rfl (.inl rfl) fun s6 c6=>?_
    refine st_if a noN c6 (tr_inS (ss:=[f.field,o]) (ks:=(own.take i).map keyF) (ev_tupEq (trs_eq (ev_name (d:=.str f.field) mh8 rfl) (trs_eq (ev_name (d:=.str o) mh14 rfl) (trs_nil rfl))) (ht:=rfl) (hsz:=Nat.le_of_ble_eq_true rfl)) mh7 rfl) ?_
    rintro bb G7 s7 rfl c7
    by_cases hin2:[f.field,o]∈(own.take i).map keyF
    ·rw [if_pos (by simpa using hin2)]
     refine st_raise a c7 (rr2.loop hA c7) (hX f (hgood.first hf (.inr ⟨o,?_,mem_keyF.mp hin2⟩))) rfl rfl rfl (ev_fstr (all4 (ev_fmtS ((ev_name (d:=.str f.name) mh9 rfl).mono fun _ _ _ _ _ ⟨d,r,e⟩=>⟨d,r,_,e,hf2⟩)) (ev_strS (by decide)) (ev_fmtS ((ev_name (d:=.str f.field) mh8 rfl).mono fun _ _ _ _ _ ⟨d,r,e⟩=>⟨d,r,_,e,hf1⟩)) (ev_strS (by decide)))) (fun _ h=>h) (ev_name (d:=.int f.spot) mh12 rfl)
     rcases List.mem_cons.mp (List.mem_of_getElem? ho) with e | e
     ·exact .inl e
     ·exact .inr ((har.above ht o).mp e)
    ·rw [if_neg (by simpa using hin2)]
     refine st_nil (st_nil ⟨G7,(c7.refact (.tail .head) ?_).sub (List.sublist_append_left [_,_,_,_,_,_,_,_,_,_,_,_,_,_] [_])⟩)
     intro z hz o' hz'
     rw [htk2] at hz
     rcases List.mem_append.mp hz with h | h
     ·exact fct2 z h o' hz'
     ·rw [List.mem_singleton.mp h] at hz'
      cases hz'
      exact hin2
   case done2=>
    rintro ds G5 s5 ⟨r,rfl,har⟩ c5
    have fct2:=c5.fact (.head _)
    rw [List.take_length] at fct2
    have hall:∀ o,o∈f.name::r→[f.field,o]∉(own.take i).map keyF:=fun o ho=>fct2 (.str o) (List.mem_map_of_mem ho) o rfl
    have hnb:¬ BadField rows (own.take i) f:=by
     rintro (h | ⟨o,ho,hq⟩)
     ·exact hin h
     ·refine hall o ?_ (mem_keyF.mpr hq)
      rcases ho with e | e
      ·rw [e];exact .head _
      ·exact .tail _ ((har.above ht o).mpr e)
    refine st_sets (ss:=[f.field,f.name]) (ks:=(own.take i).map keyF) (P:=fun d=>d=.bool true) (ρ':=(none,factK (∀ z∈((f.name::r).map D.str).take ((f.name::r).map D.str).length,∀ o,z=D.str o→[f.field,o]∉(own.take i).map keyF))::(none,K)::(none,factK (Good (BadField rows) (own.take i)))::lfR w x dx de lf fs rows own ad ((own.take i).map keyF++[[f.field,f.name]]) (fdVars w f)) a c5 (.tail (.tail (.tail (.tail (.tail (.tail .head)))))) ev_bool (ev_tupEq (trs_eq (ev_name (d:=.str f.field) mh7 rfl) (trs_eq (ev_name (d:=.str f.name) mh8 rfl) (trs_nil rfl))) (ht:=rfl) (hsz:=Nat.le_of_ble_eq_true rfl)) (hall _ (.head _)) (by simp;exact q3 ‹_›) rfl ?_
    intro G6 s6 c6
    have e1:(own.take i).map keyF++[[f.field,f.name]]=(own.take (i+1)).map keyF:=by rw [htk];simp [keyF]
    rw [e1] at c6
    refine st_nil ⟨G6,?_⟩
    have c7:=c6.tail.refact (p':=Good (BadField rows) (own.take (i+1))) (.tail .head) (by rw [htk];exact hgood.snoc hnb)
    exact c7.sub (List.sublist_append_left [_,_,_,_,_,_] [_,_,_,_,_,_])
end Mine
end
section
namespace Mine
variable {w:World} {env:Env} {n:Nat} {N:List Addr} {ρ:Rho}
variable {x dx de ls lo lf:Addr} {fs:List (Str×Value)} {rows:List (Str×Sg)} {ve:Value} {o:PySem.Expr}
theorem EvK.via {e:PySem.Expr} {ρ':Rho} {K:Shared→Value→Fz→Shared→Prop} (x:EvK w env n [] ρ' e K) (W:∀ {G₀ G:Fz} {s₀ s:Shared} {M:List Addr},St w env G₀ s₀ M ρ G s→St w env G₀ s₀ M ρ' G s):EvK w env n [] ρ e K:=
 fun A G₀ s₀ M G s Q E a b c k=>x A G₀ s₀ M G s Q E a b (W c) fun v G' s' y z q=>k v G' s' y (c.pure y) q
theorem ite_at {e:PySem.Expr} {K:Kd} {nm:Option Str} {ad:Addr} {ds:List D} {P:List D→Prop} (he:EvV w env n N ρ e (.ref ad)) (h:(nm,K)∈ρ) (hK:∀ v G h,K.p v G h→∃ vs m,h.get? ad=some (lstO vs m)∧RepL w.params G vs.toList ds) (hfp:ad∈K.fp)
  (hno:∀ q∈ρ,ad∉q.2.ow) (hp:P ds):Ite w env n N ρ e P:=fun A G₀ s₀ M G s Q E a b c k=>
 he A G₀ s₀ M G s _ E a b c fun v G1 s1 y1 z1 hv=>by
  subst hv
  have hv:∃ v,K.p v G1 s1.heap:=by
   have:=z1.vars _ h
   cases nm with
   | none=>exact ⟨_,this⟩
   | some y=>obtain ⟨u,_,h⟩:=this;exact ⟨u,h⟩
  obtain ⟨v,hv⟩:=hv
  obtain ⟨vs,m,hg',r⟩:=hK _ _ _ hv
  have hlen:=r.arr
  have hl:s1.heap.IsList ad vs:=⟨_,hg',rfl,m,rfl⟩
  refine wpAny_pyIter_list hl ?_
  have hf:∀ i (h h':Heap),(h.IsListIter s1.heap.objs.size ad i∧h.IsList ad vs)→(∀ b∈[s1.heap.objs.size,ad],∀ o,h.get? b=some o→h'.get? b=some o)→h'.IsListIter s1.heap.objs.size ad i∧h'.IsList ad vs:=
   fun _ _ _ st hk=>⟨st.1.at fun o e=>hk _ (by simp) o e,st.2.at fun o e=>hk ad (by simp) o e⟩
  have it:It w s1.heap.objs.size ds (itK _ [s1.heap.objs.size,ad] s1.heap.objs.size G1 hf):=It.of_walks (P:=fun i v=>vs[i]? = some v) (by simp) (fun A hh=>by
    have:=Walks.list (prog:=pw) (w:=w) hh s1.heap.objs.size ad (fun q=>by rw [q,fresh_size] at hg';cases hg') vs
    rw [hlen] at this;exact this) (fun i v d hv hd=>by
    obtain ⟨v',h1,h2⟩:=r.get hd
    rw [show vs.toList[i]? = vs[i]? by simp,hv] at h1;cases h1;exact h2) (fun i h hst=>by obtain ⟨⟨o,e,hc,_⟩,_⟩:=hst;exact ⟨o,e,.inl hc⟩) hf
  obtain ⟨q1,q2,q3⟩:=z1.fps _ h ad hfp
  obtain ⟨c2,y2⟩:=z1.iter {cls:=.type "list_iterator",data:=.fields #[.ref ad,.int 0 0]} rfl (K:=itK _ [s1.heap.objs.size,ad] s1.heap.objs.size G1 hf 0)
   ⟨⟨⟨_,Heap.get?_push_size _ rfl,rfl,rfl⟩,hl.at fun o e=>Heap.get?_push_of_some _ e⟩,Le.rfl⟩ rfl (fun b hb=>by
    rcases List.mem_cons.mp hb with e | hb
    ·exact .inl e
    ·have:=List.mem_singleton.mp hb;subst this
     exact .inr ⟨by rw [hg'];exact (fun h=>(nomatch h)),hno,q2,q3⟩) (by show _∈[_,_];simp)
  exact k _ ds _ _ _ it hp (Classical.byContradiction fun q=>y1.dom _ q (fresh_size _)) (y1.trans y2 fun _ h=>nomatch h) c2
theorem ev_of_str {e:PySem.Expr} {y:Str} {t:Tok} (he:EvV w env n N ρ e (.str y t)):Ev w env n N ρ e (fun d=>d=.str y):=he.mono fun _ v _ _ _ e=>⟨.str y,by subst e;exact .str _ _,rfl⟩
noncomputable def enc2 (p:Str×Str):D:=.tup [.str p.1,.str p.2]
noncomputable def BadO (rows:List (Str×Sg)) (ops:List (Str×Str)) (o:Opn):Prop:=o.md≠"util/ordering"∨o.args.length≠1∨(∃ a∈o.args,a∉keys rows)∨alOf o∈ops.map (·.1)
noncomputable def envTo (L:Addr):Env:=callEnvC (metFd 7 "take_order" 148) L 149
noncomputable def toR (w:World) (x dx de lo:Addr) (fs:List (Str×Value)) (rows:List (Str×Sg)) (ops:List (Str×Str)) (o:Opn) (tl:Rho):Rho:=
 (some ("self" : Str),(inst w.params x dx 257 fs).ro)::(none,entK w rows (.ref de))::(none,accK w lo (ops.map enc2))::(some ("item" : Str),dat w.params (encI (.opn o)))::tl
noncomputable def opVars (w:World) (o:Opn):Rho:=[(some ("spot" : Str),dat w.params (.int o.spot)),(some ("module" : Str),dat w.params (.str o.md)),(some ("args" : Str),dat w.params (.tup (o.args.map .str))),(some ("alias" : Str),dat w.params (.str o.al))]
set_option maxHeartbeats 4000000 in
theorem c_order {o:Opn} {ops:List (Str×Str)} {G:Fz} {s:Shared} {vs:List Value} {A:Around} {Q:Value→Shared→Prop} {E:Value→Shared→Prop} {X:Int→Prop} (R:Rd w x dx fs rows (.ref de) G s) (hde:de≠1) (hop:look fs "opened" = some (.ref lo)) (hl:∃ vs m,s.heap.get? lo=some (lstO vs m)∧RepL w.params G vs.toList (ops.map enc2)) (hG:G lo=none) (hap:lo≠x∧lo≠dx)
  (hok:o.md.length≤1000∧o.args.length≤10∧(∀ a∈o.args,a.length≤1000)∧PyData.strOk (alOf o)=true∧(alOf o).length≤1000) (hops:ops.length≤1000∧∀ p∈ops,PyData.strOk p.1=true) (i:Inn G s.heap) (b:Bs w G)
  (rp:RepL w.params G vs [encI (.opn o)]) (a:AOK (n+1) A) (r:RX w A [lo] X s E) (hX:BadO rows ops o→X o.spot)
  (k:∀ G' s',Step G s [lo] G' s'→¬ BadO rows ops o→(∃ a0,∃ vs m,s'.heap.get? lo=some (lstO vs m)∧RepL w.params G' vs.toList ((ops++[(alOf o,a0)]).map enc2))→Q .none s') :
  wpAny (model pw w) A (call (.ref 149) (.ref x::vs)) Q E s:=by
 obtain ⟨v,rfl,rv⟩:∃ v,vs=[v]∧Rep w.params G v (encI (.opn o)):=by
  obtain ⟨_,_,rfl,h1,h2⟩:=rp.inv
  cases h2;exact ⟨_,rfl,h1⟩
 obtain ⟨vsl,ml,hl1,hl2⟩:=hl
 have hdx:s.heap.get? x≠none∧s.heap.get? dx≠none:=by
  obtain ⟨_,g1,es,m,g2,_⟩:=R.inst
  rw [g1,g2];exact ⟨fun h=>(nomatch h),fun h=>(nomatch h)⟩
 have hls:s.heap.get? lo≠none:=by rw [hl1];exact fun h=>(nomatch h)
 refine op_fnX ff_order (binds:=[(("self" : Str),.ref x),("item",v)]) (ρ₀:=toR w x dx de lo fs rows ops o []) rfl (by show [("self" : Str),"item"].Nodup;decide) (by show ∀ y∈[("self" : Str),"item"],_;decide +kernel) i b a r ?_ ?_ ?_ ?_ ?_ ?_
 ·intro ad had
  rw [List.mem_singleton.mp had];exact hls
 ·refine fa_cons ?_ (fa_cons ?_ (fa_cons ?_ (fa_cons ?_ (fa_nil))))
  ·exact ⟨_,.head _,R.inst⟩
  ·exact R.rep
  ·exact ⟨vsl,ml,hl1,hl2⟩
  ·exact ⟨_,mh1,rv⟩
 ·refine fa_cons ?_ (fa_cons ?_ (fa_cons ?_ (fa_cons ?_ (fa_nil))))
  ·intro ad had
   rcases List.mem_cons.mp had with e | e
   ·rw [e];exact hdx.1
   ·rw [List.mem_singleton.mp e];exact hdx.2
  ·exact fun _ h=>nomatch h
  ·intro ad had;rw [List.mem_singleton.mp had];exact hls
  ·exact fun _ h=>nomatch h
 ·refine fa_cons ?_ (fa_cons ?_ (fa_cons ?_ (fa_cons ?_ (fa_nil))))
  ·exact fun _ h=>nomatch h
  ·exact fun _ h=>nomatch h
  ·intro ad had;rw [List.mem_singleton.mp had];exact ⟨by show lo∈[lo];simp,hG,by simp⟩
  ·exact fun _ h=>nomatch h
 ·refine sep_map ?_
  show List.Pairwise SepA [(some ("self" : Str),[x,dx],[]),(none,[],[]),(none,[lo],[lo]),(some ("item" : Str),[],[])]
  simp [SepA,hap.1,hap.2]
  decide
 intro A s₁ Q' E' a hA c rr kk
 change St w (envTo _) _ _ _ _ _ _ at c
 change RR w (envTo _) _ _ _ _ _ _ at rr
 change wpAny _ _ (execs _ (envTo _)) _ _ _
 generalize s.heap.objs.size=L at c rr hA ⊢
 have hself:∀ {tl:Rho} {p1 p2:Pos},EvV w (envTo L) n [] (toR w x dx de lo fs rows ops o tl) (.Attribute (.Name "self" p1) "opened" p2) (.ref lo):=fun {tl p1 p2}=>evv_selfat (K:=(inst w.params x dx 257 fs).ro) (.head _) rfl rfl hop (by rfl) (by rfl)
 refine st_tupD (xs:=["spot","module","args","alias"]) (P:=fun l=>l=[.int o.spot,.str o.md,.tup (o.args.map .str),.str o.al]) (ρs:=fun l=>match l with | [d1,d2,d3,d4]=>toR w x dx de lo fs rows ops o [(some ("spot" : Str),dat w.params d1),(some ("module" : Str),dat w.params d2),(some ("args" : Str),dat w.params d3),(some ("alias" : Str),dat w.params d4)] | _=>[]) a noN c
  ((ev_sliceT (P1:=fun d=>d=encI (.opn o)) (P2:=fun p=>p=some 1) (P3:=fun p=>p=some 5) (P:=fun d=>∃ l,d=.tup l∧l=[.int o.spot,.str o.md,.tup (o.args.map .str),.str o.al]) (ev_name mh3 rfl) (.some (ev_int.mono fun _ _ _ _ _ ⟨d,r,e⟩=>⟨d,r,_,e,rfl⟩)) (.some (ev_int.mono fun _ _ _ _ _ ⟨d,r,e⟩=>⟨d,r,_,e,rfl⟩)) (by rintro _ _ _ rfl rfl rfl;exact ⟨_,rfl,by simp,_,rfl,rfl⟩)))
  rfl ?_ (.name (.inl rfl) (.name (.inl rfl) (.name (.inl rfl) (.name (.inl rfl) .nil)))) rfl (fun l h=>by rw [h];rfl) ?_
 ·rintro l rfl
  exact .cons (.skip (by decide) (.skip (by decide) (.skip (by decide) (.skip (by decide) .new)))) (.cons (.skip (by decide) (.skip (by decide) (.skip (by decide) (.skip (by decide) (.skip (by decide) .new))))) (.cons (.skip (by decide) (.skip (by decide) (.skip (by decide) (.skip (by decide) (.skip (by decide) (.skip (by decide) .new)))))) (.cons (.skip (by decide) (.skip (by decide) (.skip (by decide) (.skip (by decide) (.skip (by decide) (.skip (by decide) (.skip (by decide) .new))))))) .nil)))
 rintro l G1 s1 rfl c1
 change St w (envTo L) G s [lo] (toR w x dx de lo fs rows ops o (opVars w o)) G1 s1 at c1
 have hargs:∀ {ρ':Rho} {pos},(some ("args" : Str),dat w.params (.tup (o.args.map .str)))∈ρ'→Ev w (envTo L) n [] ρ' (.Name "args" pos) (fun d=>d=.tup (o.args.map .str)):=fun h=>ev_name h rfl
 refine st_if a noN c1 (P:=fun b=>b=decide (o.md≠"util/ordering"∨o.args.length≠1)) (tr_or' (P1:=fun b=>b=(o.md != "util/ordering")) (P2:=fun b=>b=(o.args.length != 1))
  (tr_ne_str (P1:=fun d=>d=.str o.md) (P2:=fun d=>d=.str "util/ordering") (ev_name mh5 rfl) (ev_of_str (evv_glob rfl (by rfl) rfl rfl)) (by exact fun _ _ a b=>⟨_,_,a,b,rfl⟩))
  (fun _=>tr_ne_int (P1:=fun d=>d=.int o.args.length) (P2:=fun d=>d=.int 1) (ev_len_tup (evv_blt rfl rfl rfl rfl rfl rfl) (hargs mh6) rfl (fun d h=>⟨_,h,by simp;omega,by simp⟩)) ev_int (by
   rintro _ _ rfl rfl
   refine ⟨_,_,rfl,rfl,?_⟩
   rw [Bool.eq_iff_iff]
   simp only [bne_iff_ne,ne_eq]
   omega))
  (by
   rintro a1 b1 rfl h2
   by_cases hm:o.md = "util/ordering"
   ·have h2:=h2 (by simp [hm])
    rw [h2,Bool.eq_iff_iff];simp [hm]
   ·rw [Bool.eq_iff_iff];simp [hm])) ?_
 rintro bb G2 s2 rfl c2
 by_cases hb1:o.md≠"util/ordering"∨o.args.length≠1
 ·rw [if_pos (by simpa using hb1)]
  refine st_raise a c2 (rr c2) (hX (hb1.elim .inl fun h=>.inr (.inl h))) rfl rfl rfl (ev_fstr (all4 (ev_fmtS ((ev_name (d:=.str o.md) mh5 rfl).mono fun _ _ _ _ _ ⟨d,r,e⟩=>⟨d,r,_,e,hok.1⟩)) (ev_strS (by decide)) (ev_fmtI ((ev_len_tup (P:=fun d=>d=.int o.args.length) (evv_blt rfl rfl rfl rfl rfl rfl) (hargs mh6) rfl (fun d h=>⟨_,h,by simp;omega,by simp⟩)).mono fun _ _ _ _ _ ⟨d,r,e⟩=>⟨d,r,_,e,by omega⟩)) (ev_strS (by decide)))) (fun _ h=>h) (ev_name (d:=.int o.spot) mh4 rfl)
 ·rw [if_neg (by simpa using hb1)]
  obtain ⟨hmd,hlen⟩:o.md = "util/ordering"∧o.args.length=1:=by
   constructor
   ·exact Classical.byContradiction fun h=>hb1 (.inl h)
   ·exact Classical.byContradiction fun h=>hb1 (.inr h)
  obtain ⟨a0,ha0⟩:∃ a0,o.args=[a0]:=by
   cases q:o.args with
   | nil=>rw [q] at hlen;simp at hlen
   | cons z r=>rw [q] at hlen;simp at hlen;exact ⟨z,by rw [hlen]⟩
  have h0:∀ {ρ':Rho} {p1 kk p2 p3},(some ("args" : Str),dat w.params (.tup (o.args.map .str)))∈ρ'→Ev w (envTo L) n [] ρ' (.Subscript (.Name "args" p1) (.Constant (.int ((0:Nat):Int)) kk p2) p3) (fun d=>d=.str a0):=fun h=>pu_tup (hargs h) (by rw [ha0];simp) (by rw [ha0];rfl)
  refine st_nil (st_if a noN c2 (P:=fun b=>b = !decide (a0∈keys rows)) (tr_notInD (ds:=entL rows) (h0 mh6) (evd_dat (evv_selfat (K:=(inst w.params x dx 257 fs).ro) (.head _) rfl rfl R.att (by rfl) (by rfl)) mh1 hde)
   (by rintro _ rfl;exact ⟨a0,rfl,by rw [entL_keys]⟩)) ?_)
  rintro bb G3 s3 rfl c3
  by_cases hin:a0∈keys rows
  ·rw [if_neg (by simpa using hin)]
   refine st_nil (st_asg (P:=fun d=>d=.str (alOf o)) a noN c3 (ev_if (P1:=fun b=>b=(o.al != "")) (tr_ne_str (ev_name (d:=.str o.al) mh7 rfl) ev_str (by exact fun _ _ a b=>⟨_,_,a,b,rfl⟩)) (fun h=>?al1) (fun h=>?al2)) (ρ':=fun d=>toR w x dx de lo fs rows ops o (opVars w o++[(some ("name" : Str),dat w.params d)])) (fun d=>.skip (by decide) (.skip (by decide) (.skip (by decide) (.skip (by decide) (.skip (by decide) (.skip (by decide) (.skip (by decide) (.skip (by decide) (.new))))))))) rfl (.inl rfl) ?_)
   case al1=>
    have h':o.al≠"":=by simpa using h.symm
    exact EvK.mono (ev_name (d:=.str o.al) mh7 rfl) fun _ _ _ _ _ ⟨d,r,e⟩=>⟨d,r,by rw [e];unfold alOf;rw [if_neg h']⟩
   case al2=>
    have h':o.al = "":=by simpa using h.symm
    exact EvK.mono ev_str fun _ _ _ _ _ ⟨d,r,e⟩=>⟨d,r,by rw [e];unfold alOf;rw [if_pos h']⟩
   rintro d G4 s4 rfl c4
   have hno:∀ q∈(some ("self" : Str),(inst w.params x dx 257 fs).ro)::(none,entK w rows (.ref de))::(none,(accK w lo (ops.map enc2)).ro)::(some ("item" : Str),dat w.params (encI (.opn o)))::(opVars w o++[(some ("name" : Str),dat w.params (.str (alOf o)))]),lo∉q.2.ow:=
    fa_cons (fun h=>nomatch h) (fa_cons (fun h=>nomatch h) (fa_cons (fun h=>nomatch h) (fa_cons (fun h=>nomatch h) (fa_cons (fun h=>nomatch h) (fa_cons (fun h=>nomatch h) (fa_cons (fun h=>nomatch h) (fa_cons (fun h=>nomatch h) (fa_cons (fun h=>nomatch h) fa_nil))))))))
   refine st_if a noN c4 (P:=fun b=>b=decide (alOf o∈ops.map (·.1))) (tr_in (P1:=fun d=>d=.str (alOf o)) (P2:=fun ss=>ss=ops.map (·.1)) (ev_name mh8 rfl) (EvS.ss (P:=fun l=>l=(ops.map (·.1)).map .str) (EvL.evs (EvK.via (ρ':=(some ("self" : Str),(inst w.params x dx 257 fs).ro)::(none,entK w rows (.ref de))::(none,(accK w lo (ops.map enc2)).ro)::(some ("item" : Str),dat w.params (encI (.opn o)))::(opVars w o++[(some ("name" : Str),dat w.params (.str (alOf o)))])) ?comp (fun c=>c.roAt (.tail (.tail .head))))) (fun l h=>⟨_,h,(by intro y hy;obtain ⟨p,hp,rfl⟩:=List.mem_map.mp hy;exact hops.2 p hp),rfl⟩)) (by rintro _ _ rfl rfl;exact ⟨_,rfl,hok.2.2.2.1,rfl⟩)) ?_
   case comp=>
    refine evl_comp1 (Pds:=fun ds=>ds=ops.map enc2) (cl:=[]) [] (fun d=>match d with | .tup [d1,d2]=>[(some ("other" : Str),dat w.params d1),(some ("sig" : Str),dat w.params d2)] | _=>[]) (fun _=>true) (fun d r=>match d with | .tup [d1,d2]=>r=d1 | _=>False)
     (ite_at (K:=(accK w lo (ops.map enc2)).ro) (nm:=none) (ds:=ops.map enc2) (evv_selfat (K:=(inst w.params x dx 257 fs).ro) (.head _) rfl rfl hop (by rfl) (by rfl)) mh2 (fun v G h hh=>hh) (by show lo∈[lo];simp) hno rfl)
     rfl (by decide) rfl (by decide) (fun y cc h=>nomatch h) (fun _=>.nil) (.drop (.drop (.drop (.drop (.drop (.drop (.drop (.drop (.drop .nil))))))))) (fun _ h=>nomatch h) ?_ (fun d=>List.nil_sublist _) ?_ ?_ ?_
    ·rintro C K1 K2 A E G₀ s₀ G s ds d v aa rfl hd hr cc
     obtain ⟨p,hp,rfl⟩:=List.mem_map.mp hd
     exact asg_tup (xs:=["other","sig"]) aa.2.2 cc hr rfl (.cons (.skip (by decide) (.skip (by decide) .new)) (.cons (.skip (by decide) (.skip (by decide) (.skip (by decide) .new))) .nil)) (.name (.inl rfl) (.name (.inl rfl) .nil)) rfl rfl fun s' c'=>⟨_,c'⟩
    ·rintro C K1 K2 ds d rfl hd
     exact .none
    ·rintro C K1 K2 ds d rfl hd hpd
     obtain ⟨p,hp,rfl⟩:=List.mem_map.mp hd
     exact ev_name mh2 rfl
    ·rintro ds l rfl
     refine ⟨by simp;omega,fun h=>?_⟩
     rw [List.filter_eq_self.mpr (fun _ _=>rfl)] at h
     have:∀ {ops:List (Str×Str)} {l:List D},All2 (fun d r=>match d with | .tup [d1,d2]=>r=d1 | _=>False) (ops.map enc2) l→l=(ops.map (·.1)).map .str:=by
      intro ops
      induction ops with
      | nil=>intro l h;cases h;rfl
      | cons p r ih=>intro l h;cases h with
       | cons h1 h2=>rw [ih h2];have h1:_=D.str p.1:=h1;rw [h1];rfl
     exact this h
   rintro bb G5 s5 rfl c5
   by_cases hal:alOf o∈ops.map (·.1)
   ·rw [if_pos (by simpa using hal)]
    exact st_raise a c5 (rr c5) (hX (.inr (.inr (.inr hal)))) rfl rfl rfl (ev_fstr (all3 (ev_strS (by decide)) (ev_fmtS ((ev_name (d:=.str (alOf o)) mh8 rfl).mono fun _ _ _ _ _ ⟨d,r,e⟩=>⟨d,r,_,e,hok.2.2.2.2⟩)) (ev_strS (by decide)))) (fun _ h=>h) (ev_name (d:=.int o.spot) mh4 rfl)
   ·rw [if_neg (by simpa using hal)]
    refine st_nil (st_app (l:=lo) (ds:=ops.map enc2) (Ks:=fun d=>accK w lo (ops.map enc2++[d])) (P:=fun d=>d=enc2 (alOf o,a0)) a c5 (hself) (fun d=>.tail (.tail .head)) (fun d=>lkN) (ev_tupEq (trs_eq (ev_name (d:=.str (alOf o)) mh8 rfl) (trs_eq (h0 mh6) (trs_nil rfl))) (ht:=rfl) (hsz:=Nat.le_of_ble_eq_true rfl)) (by simp;omega) ?_)
    rintro d G6 s6 rfl c6
    refine st_nil (kk .next s6 (k G6 s6 c6.step ?_ ⟨a0,?_⟩))
    ·rintro (h | h | ⟨z,h1,h2⟩ | h)
     ·exact h hmd
     ·exact h hlen
     ·rw [ha0] at h1;rw [List.mem_singleton.mp h1] at h2;exact h2 hin
     ·exact hal h
    ·have:=c6.vars (none,accK w lo (ops.map enc2++[enc2 (alOf o,a0)])) mh2
     obtain ⟨vs',m',g1,g2⟩:=this
     exact ⟨vs',m',g1,by simpa using g2⟩
  ·rw [if_pos (by simpa using hin)]
   exact st_raise a c3 (rr c3) (hX (.inr (.inr (.inl ⟨a0,by rw [ha0];simp,hin⟩)))) rfl rfl rfl (ev_fstr (all3 (ev_strS (by decide)) (ev_fmtS ((h0 mh6).mono fun _ _ _ _ _ ⟨d,r,e⟩=>⟨d,r,_,e,hok.2.2.1 a0 (by rw [ha0];simp)⟩)) (ev_strS (by decide)))) (fun _ h=>h) (ev_name (d:=.int o.spot) mh4 rfl)
end Mine
end
section
namespace Mine
variable {w:World} {env:Env} {n:Nat} {N:List Addr} {ρ:Rho}
variable {x dx de ls lo lf:Addr} {fs:List (Str×Value)} {rows:List (Str×Sg)} {ve:Value} {o:PySem.Expr}
theorem RX.leave2 {X:Int→Prop} {s s₁:Shared} {A₀:Around} {E:Value→Shared→Prop} {N2:List Addr} (r:RX w A₀ N X s E) {G₀ G:Fz} (c:St w env G₀ s N ρ G s₁) (hl:s.heap.get? env.locals=none) (hf:env.frame=some env.locals) (hk:env.scope.kind≠.module) (hN:∀ a∈N,s.heap.get? a≠none)
  (hN2:∀ a∈N2,a∈N∨(s.heap.get? a=none∧a≠env.locals)) :
  RX w (A₀.deeper env) N2 X s₁ (fun e s'=>wpAny (model pw w) (A₀.deeper env) (leaving env e) (fun _ s''=>E e s'') (fun e' s''=>E e' s'') s'):=fun z hz=>by
 obtain ⟨h0,fr,l,h1,h2,h3⟩:=r z hz
 have h2':=h2.step c.step fun a h=>.inl h
 have none0:∀ b,s.heap.get? b=none→h0.get? b=none:=fun b hb=>by
  cases q:h0.get? b with
  | none=>rfl
  | some o=>obtain ⟨sl,x,_⟩:=h2.keep b o q (fun h=>nomatch h);rw [hb] at x;cases x
 have h0L:h0.get? env.locals=none:=none0 _ hl
 obtain ⟨m,o,es,ep,ho,hd,_⟩:=c.fr
 refine ⟨h0,fr,env::l,Around.frames_deeper h1,⟨⟨hk,⟨env.locals,o,hf,rfl,ho,fun vs q=>by rw [hd] at q;cases q⟩,h2'.ff⟩,fun L hL=>?_,h2'.keep,fun a ha=>(hN2 a ha).elim (h2.nN a) fun h=>none0 _ h.1⟩,fun e d s2 hs a=>?_⟩
 ·rw [List.filterMap_cons,hf] at hL
  rcases List.mem_cons.mp hL with q | q
  ·rw [q]
   refine ⟨.inr h0L,fun hm=>(hN2 _ hm).elim (fun h=>hN _ h hl) fun h=>h.2 rfl⟩
  ·refine ⟨(h2.fn L q).1,fun hm=>(hN2 _ hm).elim (h2.fn L q).2 fun h=>?_⟩
   obtain ⟨_,o,ho,_⟩:=h2.ff.mem q
   rw [h.1] at ho;cases ho
 ·unfold leaving
  refine wpAny_bind (air_note (Around.frames_deeper h1) a fun h' a'=>air_flight a' fun h2 a2=>h3 e d _ (.trans ?_ (hs.trans ⟨_,_,rfl⟩)) a2.frames.un)
  obtain ⟨h,tk,e⟩:=c.step.same
  exact ⟨h,tk,e⟩
noncomputable def RR2 (w:World) (env:Env) (G₀:Fz) (s₀:Shared) (M:List Addr) (A:Around) (X:Int→Prop) (E:Value→Shared→Prop):Prop:=
 ∀ {ρ:Rho} {G:Fz} {s:Shared} (N2:List Addr),St w env G₀ s₀ M ρ G s→(∀ a∈N2,a∈M∨(s₀.heap.get? a=none∧a≠env.locals))→RX w A N2 X s E
theorem RR2.loop {G₀:Fz} {s₀:Shared} {M:List Addr} {A:Around} {X:Int→Prop} {E:Value→Shared→Prop} (r:RR2 w env G₀ s₀ M A X E) (hA:∀ l,A.frames=some l→∃ o,l=env::o):RR2 w env G₀ s₀ M A X (EFor w A env E):=fun N2 c h=>(r N2 c h).loop hA
theorem op_fnX2 {fa:Addr} {fd:FuncData} {body:List Stmt} (ff:FnFacts w fa fd body) {vs:List Value} {binds:List (Str×Value)} {G:Fz} {s:Shared} {ρ₀:Rho} {X:Int→Prop} {A:Around} {R:Result→Shared→Prop} {E:Value→Shared→Prop}
  (hbind:bindArgs fd ⟨vs,[]⟩=pure binds) (hnd:(binds.map (·.1)).Nodup) (hkind:∀ x∈binds.map (·.1),fd.scope.names.lookup x=some .local∨fd.scope.names.lookup x=some .cell)
  (i:Inn G s.heap) (b:Bs w G) (a:AOK (n+1) A) (r:RX w A N X s E) (hRE:∀ e s',E e s'→R (.error e) s') (hN:∀ a∈N,s.heap.get? a≠none)
  (hρ:∀ q∈ρ₀,match q.1 with | some x=>∃ v,(x,v)∈binds∧q.2.p v G s.heap | none=>q.2.p .none G s.heap)
  (hfps:∀ q∈ρ₀,∀ a∈q.2.fp,s.heap.get? a≠none) (hows:∀ q∈ρ₀,∀ a∈q.2.ow,a∈q.2.fp∧G a=none∧a∈N) (hsep:ρ₀.Pairwise Sep)
  (h:∀ A s₁ (Q':Flow→Shared→Prop) (E':Value→Shared→Prop),AOK n A→(∀ l,A.frames=some l→∃ o,l=callEnvC fd s.heap.objs.size fa::o)→St w (callEnvC fd s.heap.objs.size fa) G s N ρ₀ G s₁→RR2 w (callEnvC fd s.heap.objs.size fa) G s N A X E'→
   (∀ f s',R (.ok (.ret (match f with | .ret v=>v | _=>.none))) s'→Q' f s')→wpAny (model pw w) A (execs body (callEnvC fd s.heap.objs.size fa)) Q' E' s₁):codeAny (model pw w) A (.call (.ref fa) ⟨vs,[]⟩) R s:=
 codeAny_fn ff hbind hnd hkind i b (by have:=a.1;show A.depth < 1000;omega) hρ hfps hows hsep fun env s₁ he c=>by
  subst he
  refine wpAny_mono (h (A.deeper _) s₁ (fun f s'=>R (.ok (.ret (match f with | .ret v=>v | _=>.none))) s') (fun e s'=>wpAny (model pw w) (A.deeper _) (leaving _ e) (fun _ s''=>E e s'') (fun e' s''=>E e' s'') s') ⟨by have:=a.1;show A.depth+1+n≤900;omega,by have:=a.2.1;show A.units+3+8 * n≤9000;omega,a.2.2⟩ deeper_frames c
   (fun N2 c2 hN2=>r.leave2 c2 (fresh_size _) rfl (by show fd.scope.kind≠_;rw [ff.kind];decide) hN hN2) fun f s' q=>q) (fun _ _ q=>q) fun e s' q=>wpAny_mono q (fun _ s'' z=>hRE _ _ z) fun e' s'' z=>hRE _ _ z
theorem sok257 {P:Params} {name:Str} (h:takerIn (KK P) 257 name=some none):StoreOK P 257 name where
 sa:=by rfl
 tk:=h
 cls:=⟨_,rfl,rfl,rfl,by decide +kernel,fun self=>by
  have:=PySem.F.store_object.passes self
  show refuseLoop self "__setattr__" [.ref 257,.type "object"]=_
  rw [refuseLoop_ref]
  exact this⟩
theorem seta_go {attr:Str} {v:Value} {A:Around} {G₀ G:Fz} {s₀ s:Shared} {M:List Addr} {Q:Unit→Shared→Prop} {E:Value→Shared→Prop} {nm:Option Str} {ρ1:Rho} (c:St w env G₀ s₀ M ρ G s) (sw:Swap (nm,inst w.params x dx 257 fs) (nm,inst w.params x dx 257 (fs++[(attr,v)])) ρ ρ1) (hnew:look fs attr=none) (hl:fs.length≤100) (O:StoreOK w.params 257 attr)
  (k:∀ s',St w env G₀ s₀ M ρ1 G s'→Q () s'):wpAny (model pw w) A (setAttr (.ref x) attr v) Q E s:=by
 have hi:∃ u,(inst w.params x dx 257 fs).p u G s.heap:=by
  have:=c.vars _ sw.mem
  cases nm with
  | none=>exact ⟨_,this⟩
  | some y=>obtain ⟨u,_,h⟩:=this;exact ⟨u,h⟩
 obtain ⟨u,hi⟩:=hi
 obtain ⟨_,g1,es,m,g2,f⟩:=hi
 have hne:x≠dx:=fun e=>by rw [e,g2] at g1;cases g1
 refine set_inst c.bs.K g1 rfl rfl rfl g2 f hl hnew O fun h' tk es' n' hk hd hf=>k _ (c.chgAt sw (I:=dx) (h':=h') (by show dx∈[dx];simp) hk (by rw [hd];exact fun h=>nomatch h) rfl rfl (fun v' hv=>⟨hv.1,hk _ _ hne g1,es',n',hd,hf⟩) tk)
theorem St.holdL {G₀ G G1:Fz} {s₀ s s1:Shared} {M:List Addr} {v:Value} {P:List D→Prop} (c:St w env G₀ s₀ M ρ G s) (y:Step G s [] G1 s1) (h:KL w P s v G1 s1):∃ ad l,v=.ref ad∧P l∧s.heap.get? ad=none∧s₀.heap.get? ad=none∧St w env G₀ s₀ M ((none,accK w ad l)::ρ) G1 s1:=by
 obtain ⟨ad,vs,m,l,rfl,h1,h2,h3,h4,h5⟩:=h
 refine ⟨ad,l,rfl,h5,h1,Classical.byContradiction fun q=>c.step.dom _ q h1,?_⟩
 refine c.keepO (v:=.none) (K:=accK w ad l) y.dom (c.pure y) ⟨vs,m,h3,h4⟩ (fun b hb=>?_) (fun b hb=>?_)
 ·rw [List.mem_singleton.mp hb];exact ⟨by rw [h3];exact (fun h=>(nomatch h)),h1⟩
 ·rw [List.mem_singleton.mp hb];exact ⟨by show ad∈[ad];simp,h2⟩
theorem st_setaX {attr:Str} {p1 p2 pos:Pos} {e:PySem.Expr} {rest:List Stmt} {P:List D→Prop} {ρ1:Value→Rho} {A:Around} {G₀ G:Fz} {s₀ s:Shared} {M:List Addr} {Q:Flow→Shared→Prop} {E:Value→Shared→Prop} (a:AOK n A) (c:St w env G₀ s₀ M ρ G s)
  (he:∀ Q':Value→Shared→Prop,(∀ v G1 s1,Step G s [] G1 s1→KL w P s v G1 s1→Q' v s1)→wpAny (model pw w) A (eval e env) Q' E s)
  (sw:∀ v,Swap (some ("self" : Str),inst w.params x dx 257 fs) (some ("self" : Str),inst w.params x dx 257 (fs++[(attr,v)])) ρ (ρ1 v)) (hnew:look fs attr=none) (hl:fs.length≤100) (O:StoreOK w.params 257 attr) (hk:env.scope.kind=.function)
  (k:∀ ad l G' s',P l→s.heap.get? ad=none→s₀.heap.get? ad=none→St w env G₀ s₀ M ((none,accK w ad l)::ρ1 (.ref ad)) G' s'→wpAny (model pw w) A (execs rest env) Q E s')
  (hs:swapsWith e (some (.Attribute (.Name "self" p1) attr p2)) pos.line env=pure false:=by rfl) :
  wpAny (model pw w) A (execs (.Assign [.Attribute (.Name "self" p1) attr p2] e pos::rest) env) Q E s:=
 wpAny_execs_cons (plainObj_wpAny_Assign_Attribute (he _ fun v G1 s1 y1 h1=>by
  obtain ⟨ad,l,rfl,hp,n1,n0,c1⟩:=c.holdL y1 h1
  refine evk_name (K:=inst w.params x dx 257 fs) (.tail _ (sw .none).mem) hk (by decide) (by decide) A G₀ s₀ M G1 s1 _ E a noN c1 fun u G2 s2 y2 c2 hu=>?_
  obtain ⟨rfl,_⟩:=hu
  exact seta_go c2 (.tail (sw (.ref ad))) hnew hl O fun s' c'=>k ad l G2 s' hp n1 n0 c') hs)
theorem st_setaD {attr:Str} {p1 p2 dp pos:Pos} {rest:List Stmt} {ρ1:Value→Rho} {A:Around} {G₀ G:Fz} {s₀ s:Shared} {M:List Addr} {Q:Flow→Shared→Prop} {E:Value→Shared→Prop} (a:AOK n A) (c:St w env G₀ s₀ M ρ G s)
  (sw:∀ v,Swap (some ("self" : Str),inst w.params x dx 257 fs) (some ("self" : Str),inst w.params x dx 257 (fs++[(attr,v)])) ρ (ρ1 v)) (hnew:look fs attr=none) (hl:fs.length≤100) (O:StoreOK w.params 257 attr) (hk:env.scope.kind=.function)
  (k:∀ ad G' s',ad≠1→s.heap.get? ad=none→s₀.heap.get? ad=none→St w env G₀ s₀ M ((none,dctK w ad [])::ρ1 (.ref ad)) G' s'→wpAny (model pw w) A (execs rest env) Q E s')
  (hs:swapsWith (.Dict [] [] dp) (some (.Attribute (.Name "self" p1) attr p2)) pos.line env=pure false:=by rfl) :
  wpAny (model pw w) A (execs (.Assign [.Attribute (.Name "self" p1) attr p2] (.Dict [] [] dp) pos::rest) env) Q E s:=by
 refine wpAny_execs_cons (plainObj_wpAny_Assign_Attribute (wpAny_Dict_empty ?_) hs)
 have y:=Step.push (N:=[]) c.step.inn (dctO #[] 0) s.toks
 have hn:=fresh_size s.heap
 have hgn:G s.heap.objs.size=none:=by
  cases q:G s.heap.objs.size with
  | none=>rfl
  | some o=>have:=c.step.inn _ _ q;rw [hn] at this;cases this
 have ho:({s with heap:=s.heap.push (dctO #[] 0)}:Shared).heap.get? s.heap.objs.size=some (dctO #[] 0):=Heap.get?_push_size _ rfl
 have hbig:s.heap.objs.size≠1:=by
  have:(353:Nat) < s.heap.objs.size:=Heap.lt_size (c.bs.K 353 _ rfl)
  intro q
  have q:(s.heap.objs.size:Nat)=1:=q
  omega
 have c1:St w env G₀ s₀ M ((none,dctK w s.heap.objs.size [])::ρ) G {s with heap:=s.heap.push (dctO #[] 0)}:=by
  refine c.keepO (v:=.none) (K:=dctK w s.heap.objs.size []) y.dom (c.pure y) ⟨[],⟨_,#[],0,ho,⟨rfl,rfl,rfl⟩,rfl,(fun e he=>by simp at he),.nil,.nil⟩,.nil⟩ (fun b hb=>?_) (fun b hb=>?_)
  ·rw [List.mem_singleton.mp hb];exact ⟨by rw [ho];exact (fun h=>(nomatch h)),hn⟩
  ·rw [List.mem_singleton.mp hb];exact ⟨by show _∈[_];simp,hgn⟩
 refine evk_name (K:=inst w.params x dx 257 fs) (.tail _ (sw .none).mem) hk (by decide) (by decide) A G₀ s₀ M G _ _ E a noN c1 fun u G2 s2 y2 c2 hu=>?_
 obtain ⟨rfl,_⟩:=hu
 exact seta_go c2 (.tail (sw (.ref s.heap.objs.size))) hnew hl O fun s' c'=>k _ G2 s' hbig hn (Classical.byContradiction fun q=>c.step.dom _ q hn) c'
theorem St.frzAt {G₀ G:Fz} {s₀ s:Shared} {M:List Addr} {K K':Kd} {a:Addr} {ob:Obj} {ρ':Rho} (c:St w env G₀ s₀ M ρ G s) (sw:Swap (none,K) (none,K') ρ ρ') (how:a∈K.ow) (hw:K'.ow=[]) (hf:K'.fp=[]) (h0:s₀.heap.get? a=none) (ho:s.heap.get? a=some ob) (hp:K'.p .none (G.put a ob) s.heap) :
  St w env G₀ s₀ M ρ' (G.put a ob) s:=by
 obtain ⟨r,h1,h2⟩:=sw.perm
 have d:=c.perm h1
 obtain ⟨o1,o2,o3⟩:=d.ows _ (.head _) a how
 obtain ⟨f1,f2,f3⟩:=d.fps _ (.head _) a o1
 obtain ⟨sp,sr⟩:=List.pairwise_cons.mp d.sep
 have out:∀ b,b≠a→G b=none→G.put a ob b=none:=fun b hb e=>by unfold Fz.put;rw [if_neg hb];exact e
 refine St.perm (ρ:=(none,K')::r) ?_ h2.symm
 exact {
  step:=d.step.freeze h0 ho
  base:=d.base
  fr:=d.fr
  newL:=d.newL
  GL:=out _ (fun e=>f2 e.symm) d.GL
  cell:=fun y cc hm=>⟨(d.cell y cc hm).1,out _ (fun e=>f3 y cc hm e.symm) (d.cell y cc hm).2⟩
  apart:=d.apart
  cnew:=d.cnew
  vars:=fun q hq=>by
   rcases List.mem_cons.mp hq with e | hq
   ·subst e;exact hp
   ·exact (d.vars q (.tail _ hq)).next (d.step.le_put ho) (fun _ e=>e) (fun _ _ _ _ e=>e) fun _ _ _ e=>e
  fps:=fun q hq b hb=>by
   rcases List.mem_cons.mp hq with e | hq
   ·subst e;rw [hf] at hb;exact nomatch hb
   ·exact d.fps q (.tail _ hq) b hb
  ows:=fun q hq b hb=>by
   rcases List.mem_cons.mp hq with e | hq
   ·subst e;rw [hw] at hb;exact nomatch hb
   ·obtain ⟨g1,g2,g3⟩:=d.ows q (.tail _ hq) b hb
    exact ⟨g1,out _ (fun e=>(sp q hq).2.1 a how (e▸g1)) g2,g3⟩
  sep:=List.pairwise_cons.mpr ⟨fun q hq=>⟨.inl rfl,(fun b hb=>by have hb:b∈K'.ow:=hb;rw [hw] at hb;exact nomatch hb),(fun b _ hm=>by have hm:b∈K'.fp:=hm;rw [hf] at hm;exact nomatch hm)⟩,sr⟩}
theorem St.frzD {G₀ G:Fz} {s₀ s:Shared} {M:List Addr} {de:Addr} {ρ':Rho} (c:St w env G₀ s₀ M ρ G s) (sw:Swap (none,dctK w de (entL rows)) (none,entK w rows (.ref de)) ρ ρ') (h0:s₀.heap.get? de=none):∃ G',Le G G'∧St w env G₀ s₀ M ρ' G' s:=by
 have hd:DctAt w G s.heap de (entL rows):=c.vars _ sw.mem
 obtain ⟨es,m,h1,h2,h3⟩:=hd.obj
 have hle:=c.step.le_put h1
 exact ⟨_,hle,c.frzAt sw (by show de∈[de];simp) rfl rfl h0 h1 (.dct Fz.put_self (h2.mono hle) h3)⟩
theorem St.frzL {G₀ G:Fz} {s₀ s:Shared} {M:List Addr} {ls:Addr} {l:List D} {ρ':Rho} (c:St w env G₀ s₀ M ρ G s) (sw:Swap (none,accK w ls l) (none,lstD w ls l) ρ ρ') (h0:s₀.heap.get? ls=none):∃ G',Le G G'∧St w env G₀ s₀ M ρ' G' s:=by
 obtain ⟨vs,m,h1,h2⟩:=c.vars _ sw.mem
 have hle:=c.step.le_put h1
 exact ⟨_,hle,c.frzAt sw (by show ls∈[ls];simp) rfl rfl h0 h1 (.lst Fz.put_self (h2.mono hle))⟩
end Mine
end
section
namespace Mine
variable {w:World} {env:Env} {n:Nat} {N:List Addr} {ρ:Rho}
variable {x dx de ls lo lf:Addr} {fs:List (Str×Value)} {rows:List (Str×Sg)} {ve:Value} {o:PySem.Expr}
structure TameS (t:Sg):Prop where
 names:t.names.length≤4∧∀ y∈t.names,PyData.strOk y=true∧y.length≤1000
 sups:t.sups.length≤5
 up:∀ y∈t.up,PyData.strOk y=true∧y.length≤1000
 decls:t.decls.length≤6∧∀ d∈t.decls,d.fields.length≤4∧∀ f∈d.fields,f.length≤1000
structure TameO (o:Opn):Prop where
 ok:o.md.length≤1000∧o.args.length≤10∧(∀ a∈o.args,a.length≤1000)∧PyData.strOk (alOf o)=true∧(alOf o).length≤1000
structure Tame (its:List Im):Prop where
 len:its.length≤20
 sigs:∀ t∈sigsOf its,TameS t
 opns:∀ o∈opnsOf its,TameO o
theorem dupIn_nodup {seen ns:List Str} (h:seen.Nodup) (hd:¬ dupIn seen ns):(seen++ns).Nodup:=by
 induction ns generalizing seen with
 | nil=>rwa [List.append_nil]
 | cons y ns ih=>
  have h3:(seen++[y]).Nodup:=by
   rw [List.nodup_append]
   refine ⟨h,List.nodup_cons.mpr ⟨List.not_mem_nil,.nil⟩,fun a ha b hb=>?_⟩
   rw [List.mem_singleton.mp hb]
   exact fun e=>hd (.inl (e▸ha))
  have:=ih h3 fun h=>hd (.inr h)
  rwa [List.append_assoc] at this
theorem keys_append {a b:List (Str×Sg)}:keys (a++b)=keys a++keys b:=by simp [keys]
theorem keys_rowsS_one {t:Sg}:keys (rowsS [t])=t.names:=by
 unfold keys rowsS
 simp only [List.flatMap_cons,List.flatMap_nil,List.append_nil,List.map_map]
 exact List.map_id' t.names
theorem good_nodup:∀ {l:List Sg},Good BadSig l→(keys (rowsS l)).Nodup:=by
 intro l
 have key:∀ (r:List Sg),Good BadSig r.reverse→(keys (rowsS r.reverse)).Nodup:=by
  intro r
  induction r with
  | nil=>intro _;simp [rowsS,keys]
  | cons t r ih=>
   intro g
   rw [List.reverse_cons] at g ⊢
   rw [rowsS_append,keys_append,keys_rowsS_one]
   exact dupIn_nodup (ih g.left) fun h=>g r.reverse t [] rfl (.inl h)
 have:=key l.reverse
 simpa using this
theorem sigs_len (its:List Im):(sigsOf its).length≤its.length:=by
 induction its with
 | nil=>exact Nat.zero_le _
 | cons i r ih=>
  cases i with
  | sig t=>exact Nat.succ_le_succ ih
  | opn o=>exact Nat.le_succ_of_le ih
theorem opns_len (its:List Im):(opnsOf its).length≤its.length:=by
 induction its with
 | nil=>exact Nat.zero_le _
 | cons i r ih=>
  cases i with
  | sig t=>exact Nat.le_succ_of_le ih
  | opn o=>exact Nat.succ_le_succ ih
theorem om_mul {a b k n:Nat} (h1:a≤k) (h2:b≤k * n):a+b≤k * (n+1):=by
 rw [Nat.mul_succ,Nat.add_comm];exact Nat.add_le_add h2 h1
theorem rowsS_mem {l:List Sg} {p:Str×Sg} (h:p∈rowsS l):p.2∈l∧p.1∈p.2.names:=by
 unfold rowsS at h
 obtain ⟨t,h1,h2⟩:=List.mem_flatMap.mp h
 obtain ⟨y,h3,rfl⟩:=List.mem_map.mp h2
 exact ⟨h1,h3⟩
theorem rowsS_len {l:List Sg} (h:∀ t∈l,t.names.length≤4):(rowsS l).length≤4 * l.length:=by
 induction l with
 | nil=>exact Nat.zero_le _
 | cons t r ih=>
  show (t.names.map (·,t)++rowsS r).length≤_
  rw [List.length_append,List.length_map,List.length_cons]
  exact om_mul (h t (.head _)) (ih fun t ht=>h t (.tail _ ht))
theorem Tame.rlen {its:List Im} (h:Tame its):(rowsS (sigsOf its)).length≤80:=by
 have h1:=rowsS_len (l:=sigsOf its) fun t ht=>(h.sigs t ht).names.1
 have h2:=sigs_len its
 have h3:=h.len
 omega
theorem Tame.fine {its:List Im} (h:Tame its) (g:Good BadSig (sigsOf its)):Fine (rowsS (sigsOf its)) where
 nd:=good_nodup g
 sup:=fun p hp=>by have:=(h.sigs _ (rowsS_mem hp).1).sups;exact q1 ‹_›
 ok:=fun p hp u hu=>(h.sigs _ (rowsS_mem hp).1).up u hu
 okk:=fun y hy=>by
  obtain ⟨p,hp,rfl⟩:=List.mem_map.mp hy
  exact (h.sigs _ (rowsS_mem hp).1).names.2 _ (rowsS_mem hp).2
 len:=by have:=h.rlen;exact q1 ‹_›
theorem sum_le {α:Type} {f:α→Nat} {k:Nat} {l:List α} (h:∀ a∈l,f a≤k):(l.map f).sum≤k * l.length:=by
 induction l with
 | nil=>exact Nat.zero_le _
 | cons a r ih=>
  rw [List.map_cons,List.sum_cons,List.length_cons]
  exact om_mul (h a (.head _)) (ih fun a ha=>h a (.tail _ ha))
theorem Tame.clo {its:List Im} (h:Tame its) (g:Good (BadRow (rowsS (sigsOf its))) (rowsS (sigsOf its))):Clo (rowsS (sigsOf its)) where
 ups:=fun y t ht z hz=>by
  have hm:=mem_of_look ht
  obtain ⟨pre,post,e⟩:=List.append_of_mem hm
  have:=g pre (y,t) post e
  exact look_of_mem (Classical.byContradiction fun hn=>this (.inl ⟨z,hz,hn⟩))
 oks:=fun y t ht=>by
  have hm:=mem_of_look ht
  have:=h.sigs _ (rowsS_mem hm).1
  exact ⟨fun z hz=>(this.up z hz).1,by have h5:t.sups.length≤5:=this.sups;exact q1 ‹_›⟩
 small:=by
  have:=sum_le (f:=fun p:Str×Sg=>p.2.up.length+1) (k:=7) (l:=rowsS (sigsOf its)) fun p hp=>by
   have:=(h.sigs _ (rowsS_mem hp).1).sups
   show p.2.up.length+1≤7
   unfold Sg.up
   split<;>simp<;>exact q1 ‹_›
  have h2:=h.rlen
  omega
theorem toldF_sub {n:Nat} {found:List Str} {left:List (Str×Sg)} {y:Str} (h:y∈(toldF n found left).1):y∈found∨y∈keys left:=by
 induction n generalizing found left with
 | zero=>exact .inl h
 | succ n ih=>
  unfold toldF at h
  cases hk:left.findIdx? (fun p=>ready found p.2) with
  | none=>rw [hk] at h;exact .inl h
  | some k=>
   rw [hk] at h
   rcases ih h with h | h
   ·rcases List.mem_append.mp h with h | h
    ·exact .inl h
    ·refine .inr ?_
     have hlt:=(List.findIdx?_eq_some_iff_getElem.mp hk).1
     rw [List.getElem?_eq_getElem hlt] at h
     rw [List.mem_singleton.mp h]
     exact List.mem_map_of_mem (List.getElem_mem hlt)
   ·obtain ⟨p,hp,rfl⟩:=List.mem_map.mp h
    exact .inr (List.mem_map_of_mem (List.mem_of_mem_eraseIdx hp))
theorem toldF_len {n:Nat} {found:List Str} {left:List (Str×Sg)}:(toldF n found left).1.length≤found.length+n:=by
 induction n generalizing found left with
 | zero=>exact Nat.le_refl _
 | succ n ih=>
  unfold toldF
  cases hk:left.findIdx? (fun p=>ready found p.2) with
  | none=>exact Nat.le_add_right _ _
  | some k=>
   refine Nat.le_trans ih ?_
   rw [List.length_append,List.length_singleton,Nat.add_assoc,Nat.add_comm 1]
   exact Nat.le_refl _
theorem told_sub {rows:List (Str×Sg)} {y:Str} (h:y∈(told rows).1):y∈keys rows:=(toldF_sub h).resolve_left fun h=>nomatch h
theorem told_len {rows:List (Str×Sg)}:(told rows).1.length≤rows.length:=by have:=toldF_len (n:=rows.length) (found:=[]) (left:=rows);simpa [told] using this
theorem numbered_le {g:Nat} {l:List (Str×Dc)} {k:Nat} (h:∀ p∈l,p.2.fields.length≤k):(numbered g l).length≤k * l.length:=by
 induction l generalizing g with
 | nil=>exact Nat.zero_le _
 | cons p r ih=>
  obtain ⟨nm,d⟩:=p
  rw [numbered,List.length_append,List.length_map,List.length_cons]
  exact om_mul (h (nm,d) (.head _)) (ih fun p hp=>h p (.tail _ hp))
theorem declsOf_mem {rows:List (Str×Sg)} {order:List Str} {p:Str×Dc} (h:p∈declsOf rows order):p.1∈order∧∃ t,look rows p.1=some t∧p.2∈t.decls:=by
 obtain ⟨y,h1,h2⟩:=List.mem_flatMap.mp h
 split at h2
 ·rename_i t ht
  obtain ⟨d,h3,rfl⟩:=List.mem_map.mp h2
  exact ⟨h1,t,ht,h3⟩
 ·cases h2
theorem declsOf_le {rows:List (Str×Sg)} {k:Nat} {order:List Str} (h:∀ p∈rows,p.2.decls.length≤k):(declsOf rows order).length≤k * order.length:=by
 induction order with
 | nil=>exact Nat.zero_le _
 | cons y r ih=>
  have e:declsOf rows (y::r)=(declsAt rows y).map (y,·)++declsOf rows r:=by
   unfold declsOf declsAt
   rw [List.flatMap_cons]
   cases look rows y<;>rfl
  rw [e,List.length_append,List.length_map,List.length_cons]
  refine om_mul ?_ ih
  unfold declsAt
  cases q:look rows y with
  | none=>exact Nat.zero_le _
  | some t=>exact h _ (mem_of_look q)
theorem numbered_mem {g:Nat} {l:List (Str×Dc)} {f:Fd} (h:f∈numbered g l):∃ p∈l,f.name=p.1∧f.field∈p.2.fields∧f.spot=p.2.spot:=by
 induction l generalizing g with
 | nil=>cases h
 | cons p r ih=>
  obtain ⟨nm,d⟩:=p
  rw [numbered] at h
  rcases List.mem_append.mp h with h | h
  ·obtain ⟨y,h1,rfl⟩:=List.mem_map.mp h
   exact ⟨_,.head _,rfl,h1,rfl⟩
  ·exact (ih h).elim fun p h=>⟨p,.tail _ h.1,h.2⟩
theorem Tame.own {its:List Im} (h:Tame its) (g:Good BadSig (sigsOf its)):(ownF (rowsS (sigsOf its))).length≤10000∧∀ f∈ownF (rowsS (sigsOf its)),(∃ t,look (rowsS (sigsOf its)) f.name=some t)∧f.field.length≤1000∧f.name.length≤1000:=by
 have hd:∀ p∈rowsS (sigsOf its),p.2.decls.length≤6:=fun p hp=>(h.sigs _ (rowsS_mem hp).1).decls.1
 constructor
 ·unfold ownF
  have h1:=numbered_le (g:=0) (l:=declsOf (rowsS (sigsOf its)) (told (rowsS (sigsOf its))).1) (k:=4) fun p hp=>by
   obtain ⟨_,t,ht,hm⟩:=declsOf_mem hp
   exact ((h.sigs _ (rowsS_mem (mem_of_look ht)).1).decls.2 _ hm).1
  have h2:=declsOf_le (order:=(told (rowsS (sigsOf its))).1) hd
  have h3:=told_len (rows:=rowsS (sigsOf its))
  have h4:=h.rlen
  omega
 ·intro f hf
  obtain ⟨p,hp,e1,e2,_⟩:=numbered_mem hf
  obtain ⟨_,t,ht,hm⟩:=declsOf_mem hp
  have hr:=rowsS_mem (mem_of_look ht)
  rw [e1]
  exact ⟨⟨t,ht⟩,((h.sigs _ hr.1).decls.2 _ hm).2 _ e2,((h.sigs _ hr.1).names.2 _ hr.2).2⟩
end Mine
end
section
namespace Mine
variable {w:World} {env:Env} {n:Nat} {N:List Addr} {ρ:Rho}
variable {x dx de ls lo lf:Addr} {fs:List (Str×Value)} {rows:List (Str×Sg)} {ve:Value} {o:PySem.Expr}
structure SigO (w:World) (x dx:Addr) (its:List Im) (fs:List (Str×Value)) (de lo lf:Addr) (G:Fz) (h:Heap):Prop where
 inst:(inst w.params x dx 257 fs).p (.ref x) G h
 e1:look fs "entries" = some (.ref de)
 r1:Rep w.params G (.ref de) (.dct (entL (rowsS (sigsOf its))))
 e2:look fs "ordered" = some (.ref lo)
 r2:Rep w.params G (.ref lo) (.lst ((told (rowsS (sigsOf its))).1.map .str))
 e3:look fs "own_fields" = some (.ref lf)
 r3:Rep w.params G (.ref lf) (.lst ((ownF (rowsS (sigsOf its))).map encFd))
 no:∀ y,look fs y≠none→y∈attrs
 big:de≠1
noncomputable def opK (w:World) (lo:Addr) (names:List Str):Kd:=⟨fun _ G h=>∃ ops:List (Str×Str),ops.map (·.1)=names∧∃ vs m,h.get? lo=some (lstO vs m)∧RepL w.params G vs.toList (ops.map enc2),[lo],[lo],
 fun hl he ⟨ops,e,vs,m,h1,h2⟩=>⟨ops,e,vs,m,he lo (by simp) _ h1,h2.mono hl⟩⟩
theorem KL.and {P P':List D→Prop} {s s':Shared} {v:Value} {G':Fz} (h:KL w P s v G' s') (k:∀ l,P l→P' l):KL w P' s v G' s':=let ⟨a,vs,m,ds,h1,h2,h3,h4,h5,h6⟩:=h;⟨a,vs,m,ds,h1,h2,h3,h4,h5,k _ h6⟩
theorem no_of {fs:List (Str×Value)} (h:(fs.map (·.1)).all (fun y=>attrs.contains y)=true):∀ y,look fs y≠none→y∈attrs:=fun y hy=>by
 unfold look at hy
 cases q:fs.find? (fun p=>decide (p.1=y)) with
 | none=>rw [q] at hy;exact (hy rfl).elim
 | some p=>
  have h1:=List.mem_of_find?_eq_some q
  have h2:=List.find?_some q
  simp at h2
  have:=List.all_eq_true.mp h p.1 (List.mem_map_of_mem h1)
  rw [← h2]
  simpa using this
theorem sg1_sig {its:List Im} {i:Nat} {t:Sg} (h:its[i]? = some (.sig t)):sigsOf (its.take (i+1))=sigsOf (its.take i)++[t]:=by rw [List.take_add_one,h,sigsOf_append];rfl
theorem sg1_opn {its:List Im} {i:Nat} {q:Opn} (h:its[i]? = some (.opn q)):sigsOf (its.take (i+1))=sigsOf (its.take i):=by rw [List.take_add_one,h,sigsOf_append];simp [sigsOf]
theorem op1_opn {its:List Im} {i:Nat} {q:Opn} (h:its[i]? = some (.opn q)):opnsOf (its.take (i+1))=opnsOf (its.take i)++[q]:=by rw [List.take_add_one,h,opnsOf_append];rfl
theorem op1_sig {its:List Im} {i:Nat} {t:Sg} (h:its[i]? = some (.sig t)):opnsOf (its.take (i+1))=opnsOf (its.take i):=by rw [List.take_add_one,h,opnsOf_append];simp [opnsOf]
theorem split_at {its:List Im} {i:Nat} {q:Im} (h:its[i]? = some q):its=its.take i++q::its.drop (i+1):=by
 have hlt:i < its.length:=(List.getElem?_eq_some_iff.mp h).1
 conv=>lhs;rw [← List.take_append_drop i its]
 rw [List.drop_eq_getElem_cons hlt]
 rw [List.getElem?_eq_getElem hlt] at h
 cases h;rfl
theorem first_sig {its:List Im} {i:Nat} {t:Sg} (h:its[i]? = some (.sig t)) (g:Good BadSig (sigsOf (its.take i))) (hb:BadSig (sigsOf (its.take i)) t):First BadSig (sigsOf its) t:=
 ⟨sigsOf (its.take i),sigsOf (its.drop (i+1)),by (conv=>lhs;rw [split_at h]);rw [sigsOf_append];rfl,g,hb⟩
theorem first_opn {Bad:List Opn→Opn→Prop} {its:List Im} {i:Nat} {q:Opn} (h:its[i]? = some (.opn q)) (g:Good Bad (opnsOf (its.take i))) (hb:Bad (opnsOf (its.take i)) q):First Bad (opnsOf its) q:=
 ⟨opnsOf (its.take i),opnsOf (its.drop (i+1)),by (conv=>lhs;rw [split_at h]);rw [opnsOf_append];rfl,g,hb⟩
theorem mem_sigs {its:List Im} {i:Nat} {t:Sg} (h:its[i]? = some (.sig t)):t∈sigsOf its:=by
 have e:sigsOf its=sigsOf (its.take i)++t::sigsOf (its.drop (i+1)):=by
  conv=>lhs;rw [split_at h]
  rw [sigsOf_append];rfl
 rw [e];simp
theorem mem_opns {its:List Im} {i:Nat} {t:Opn} (h:its[i]? = some (.opn t)):t∈opnsOf its:=by
 have e:opnsOf its=opnsOf (its.take i)++t::opnsOf (its.drop (i+1)):=by
  conv=>lhs;rw [split_at h]
  rw [opnsOf_append];rfl
 rw [e];simp
theorem bado {rows:List (Str×Sg)} {pre:List Opn} {ops:List (Str×Str)} {q:Opn} (h:ops.map (·.1)=pre.map alOf):BadO rows ops q↔BadOpn rows pre q:=by
 unfold BadO BadOpn
 rw [h]
 simp only [List.mem_map]
noncomputable def envIn (L:Addr):Env:=callEnvC (metFd 0 "__init__" 103) L 104
noncomputable def fs3 (de ls lo:Addr):List (Str×Value):=[("entries",.ref de),("stands",.ref ls),("opened",.ref lo)]
noncomputable def in1 (w:World) (x dx de ls lo:Addr) (its:List Im) (i:Nat) (tl:Rho):Rho:=
 (none,factK (Good BadSig (sigsOf (its.take i))))::(none,accK w lo [])::(none,accK w ls ((keys (rowsS (sigsOf (its.take i)))).map .str))::(none,dctK w de (entL (rowsS (sigsOf (its.take i)))))::(some ("self" : Str),inst w.params x dx 257 (fs3 de ls lo))::(some ("items" : Str),dat w.params (.lst (its.map encI)))::tl
noncomputable def kindD:Im→Str
 | .sig _=>"sig"
 | .opn _=>"open"
theorem encI_tup (q:Im):∃ l,encI q=.tup l∧l.length≤1000∧l[0]? = some (.str (kindD q)):=by
 cases q with
 | sig t=>exact ⟨_,rfl,by simp,rfl⟩
 | opn o=>exact ⟨_,rfl,by simp,rfl⟩
theorem St.kindAt {G₀ G:Fz} {s₀ s:Shared} {M:List Addr} {nm:Option Str} {K K':Kd} {ρ':Rho} (c:St w env G₀ s₀ M ρ G s) (sw:Swap (nm,K) (nm,K') ρ ρ') (hp:∀ v,K.p v G s.heap→K'.p v G s.heap) (hf:K'.fp=K.fp) (ho:K'.ow=K.ow):St w env G₀ s₀ M ρ' G s:=by
 obtain ⟨r,h1,h2⟩:=sw.perm
 refine ((c.perm h1).kind (K':=K') hp (fun a h=>hf▸h) (fun a h=>⟨ho▸h,?_⟩)).perm h2.symm
 rw [hf]
 exact ((c.perm h1).ows _ (.head _) a (ho▸h)).1
noncomputable def fs4 (de ls lo l2:Addr):List (Str×Value):=fs3 de ls lo++[(("ordered" : Str),Value.ref l2)]
noncomputable def fs5 (de ls lo l2 lf:Addr):List (Str×Value):=fs4 de ls lo l2++[(("own_fields" : Str),Value.ref lf)]
theorem take_step {s s2 s3:Shared} {G G2 G3:Fz} (y:Step G s [] G2 s2) (z:Step G2 s2 [] G3 s3):Step G s [] G3 s3:=y.trans z fun _ h=>nomatch h
set_option maxHeartbeats 8000000 in
theorem c_init {its:List Im} (T:Tame its) {G:Fz} {s:Shared} {v:Value} {A:Around} {R:Result→Shared→Prop} {E:Value→Shared→Prop} {X:Int→Prop} (hi:(inst w.params x dx 257 []).p (.ref x) G s.heap) (hG:G dx=none) (rv:Rep w.params G v (.lst (its.map encI))) (i:Inn G s.heap) (b:Bs w G)
  (a:AOK (n+7) A) (r:RX w A [dx] X s E) (hRE:∀ e s',E e s'→R (.error e) s') (hX:∀ z,Refused its z→X z)
  (k:∀ G' s' fs de lo lf,Step G s [dx] G' s'→Taken its→SigO w x dx its fs de lo lf G' s'.heap→R (.ok (.ret .none)) s'):codeAny (model pw w) A (.call (.ref 104) ⟨[.ref x,v],[]⟩) R s:=by
 have hdx:s.heap.get? x≠none∧s.heap.get? dx≠none:=by
  obtain ⟨_,g1,es,m,g2,_⟩:=hi
  rw [g1,g2];exact ⟨fun h=>(nomatch h),fun h=>(nomatch h)⟩
 refine op_fnX2 (n:=n+6) ff_init (N:=[dx]) (binds:=[(("self" : Str),.ref x),("items",v)]) (ρ₀:=[(some ("self" : Str),inst w.params x dx 257 []),(some ("items" : Str),dat w.params (.lst (its.map encI)))]) rfl (by show [("self" : Str),"items"].Nodup;decide) (by show ∀ y∈[("self" : Str),"items"],_;decide +kernel) i b a r hRE ?_ ?_ ?_ ?_ ?_ ?_
 ·intro ad had
  rw [List.mem_singleton.mp had];exact hdx.2
 ·refine fa_cons ?_ (fa_cons ?_ (fa_nil))
  ·exact ⟨_,.head _,hi⟩
  ·exact ⟨_,mh1,rv⟩
 ·refine fa_cons ?_ (fa_cons ?_ (fa_nil))
  ·intro ad had
   rcases List.mem_cons.mp had with e | e
   ·rw [e];exact hdx.1
   ·rw [List.mem_singleton.mp e];exact hdx.2
  ·exact fun _ h=>nomatch h
 ·refine fa_cons ?_ (fa_cons ?_ (fa_nil))
  ·intro ad had;rw [List.mem_singleton.mp had];exact ⟨by show dx∈[x,dx];simp,hG,by simp⟩
  ·exact fun _ h=>nomatch h
 ·refine sep_map ?_
  show List.Pairwise SepA [(some ("self" : Str),[x,dx],[dx]),(some ("items" : Str),[],[])]
  simp [SepA]
  decide
 intro A s₁ Q' E' a hA c rr kk
 change St w (envIn _) _ _ _ _ _ _ at c
 change RR2 w (envIn _) _ _ _ _ _ _ at rr
 change wpAny _ _ (execs _ (envIn _)) _ _ _
 change ∀ l,A.frames=some l→∃ o,l=envIn _::o at hA
 generalize s.heap.objs.size=L at c rr hA ⊢
 refine st_setaD (x:=x) (dx:=dx) (fs:=[]) a c (ρ1:=fun v=>[(some ("self" : Str),inst w.params x dx 257 ([]++[(("entries" : Str),v)])),(some ("items" : Str),dat w.params (.lst (its.map encI)))]) (fun v=>.head) rfl (by simp) (sok257 (by rfl)) rfl fun de G1 s1 hbig n1 n0d c1=>?_
 refine st_setaX (x:=x) (dx:=dx) (fs:=[("entries",.ref de)]) (P:=fun l=>l=[]) a c1 (fun Q' hQ=>(evl_list (P:=fun l=>l=[]) (n:=n+6) (N:=[]) (trs_nil rfl)) A _ _ _ _ _ Q' _ a noN c1 fun v G' s' y z q=>hQ v G' s' y q) (ρ1:=fun v=>[(none,dctK w de []),(some ("self" : Str),inst w.params x dx 257 ([(("entries" : Str),.ref de)]++[(("stands" : Str),v)])),(some ("items" : Str),dat w.params (.lst (its.map encI)))]) (fun v=>.tail .head) rfl (by simp) (sok257 (by rfl)) rfl ?_
 rintro ls l G2 s2 rfl n2 n0s c2
 refine st_setaX (x:=x) (dx:=dx) (fs:=[("entries",.ref de),("stands",.ref ls)]) (P:=fun l=>l=[]) a c2 (fun Q' hQ=>(evl_list (P:=fun l=>l=[]) (n:=n+6) (N:=[]) (trs_nil rfl)) A _ _ _ _ _ Q' _ a noN c2 fun v G' s' y z q=>hQ v G' s' y q) (ρ1:=fun v=>[(none,accK w ls []),(none,dctK w de []),(some ("self" : Str),inst w.params x dx 257 ([(("entries" : Str),.ref de),(("stands" : Str),.ref ls)]++[(("opened" : Str),v)])),(some ("items" : Str),dat w.params (.lst (its.map encI)))]) (fun v=>.tail (.tail .head)) rfl (by simp) (sok257 (by rfl)) rfl ?_
 rintro lo l G3 s3 rfl n3 n0o c3
 change St w (envIn L) G s [dx] ((none,accK w lo [])::(none,accK w ls [])::(none,dctK w de [])::(some ("self" : Str),inst w.params x dx 257 (fs3 de ls lo))::(some ("items" : Str),dat w.params (.lst (its.map encI)))::[]) G3 s3 at c3
 refine wpAny_execs_cons (st_for (n:=n+6) (N:=[]) (Pds:=fun l=>l=its.map encI) a noN c3 (ite_lst (ev_name (d:=.lst (its.map encI)) mh4 rfl) fun d h=>⟨_,h,rfl⟩)
  (fun _ i=>in1 w x dx de ls lo its i []) (fun ds G' s' K h c=>(c.newfact Good.nil).swap) ?turn1 ?done1)
 case turn1=>
  rintro ds i d v' G4 s4 K rfl hdi hr c4
  rw [List.getElem?_map] at hdi
  obtain ⟨q,hq,rfl⟩:=Option.map_eq_some_iff.mp hdi
  obtain ⟨l,hl1,hl2,hl3⟩:=encI_tup q
  have fct:=c4.fact mh1
  refine st_name c4 hr (.skip (fun e=>nomatch e) (.skip (fun e=>nomatch e) (.skip (fun e=>nomatch e) (.skip (fun e=>nomatch e) (.skip (fun e=>nomatch e) (.skip (by decide) (.skip (by decide) (.new)))))))) rfl (.inl rfl) fun s5 c5=>?_
  refine st_if a noN c5 (P:=fun b=>b=(kindD q == "sig")) (tr_eq_str (pu_tup (l:=l) (by rw [← hl1];exact ev_name (d:=encI q) mh7 rfl) (by exact q1 ‹_›) hl3) ev_str (by exact fun _ _ a b=>⟨_,_,a,b,rfl⟩)) ?_
  rintro bb G6 s6 rfl c6
  cases q with
  | opn q=>
   rw [if_neg (by show ¬ (("open" : Str)==("sig" : Str))=true;decide)]
   refine st_nil (st_nil ⟨G6,?_⟩)
   have e:=sg1_opn hq
   unfold in1
   rw [e]
   exact c6.sub (List.sublist_append_left [_,_,_,_,_,_,_] [_])
  | sig t=>
   rw [if_pos (by show (("sig" : Str)==("sig" : Str))=true;decide)]
   have ht:=T.sigs t (mem_sigs hq)
   have e:=sg1_sig hq
   refine st_expr (meth_go (n:=n+6) (PA:=fun l=>l=[encS t]) (q:=(some ("self" : Str),inst w.params x dx 257 (fs3 de ls lo))) (dx:=dx) (fs:=fs3 de ls lo) ff_take ((evk_name (K:=inst w.params x dx 257 (fs3 de ls lo)) mh5 rfl).mono fun _ v _ _ _ hv=>hv.1) ⟨mh5,rfl,rfl⟩ (trs1 (ev_name (d:=encS t) mh7 rfl) (fun _ h=>by rw [h])) a c6 ?_ rfl (.inr ⟨_,_,rfl⟩) (by rfl) (by rfl) (by rfl))
   rintro G7 s7 vs ds y7 c7 rvs rfl
   obtain ⟨u,hu,hin⟩:=c7.vars (some "self",inst w.params x dx 257 (fs3 de ls lo)) mh5
   have sp:=c7.sep
   have s34:=(List.pairwise_cons.mp (List.pairwise_cons.mp (List.pairwise_cons.mp (List.pairwise_cons.mp sp).2).2).2)
   have s4r:=List.pairwise_cons.mp s34.2
   have ap1:ls≠de:=fun e=>(s34.1 _ (.head _)).2.1 ls (by show ls∈[ls];simp) (by show ls∈[de];simp [e])
   have ap2:=(s34.1 _ mh1).2.1 ls (by show ls∈[ls];simp)
   have ap3:=(s4r.1 _ (.head _)).2.1 de (by show de∈[de];simp)
   have ap2':ls≠x∧ls≠dx:=by
    have:ls∉[x,dx]:=ap2
    simpa using this
   have ap3':de≠x∧de≠dx:=by
    have:de∉[x,dx]:=ap3
    simpa using this
   have B:Bld w x dx de ls (fs3 de ls lo) (rowsS (sigsOf (its.take i))) G7 s7.heap:=⟨⟨rfl,hin.2⟩,c7.vars (none,dctK w de _) mh4,c7.vars (none,accK w ls _) mh3,rfl,rfl,⟨ap1.symm,ap3'.1,ap3'.2,ap2'.1,ap2'.2⟩,hbig,no_of (by rfl)⟩
   have hG7:G7 de=none∧G7 ls=none:=⟨(c7.ows (none,dctK w de _) mh4 de (by show de∈[de];simp)).2.1,(c7.ows (none,accK w ls _) mh3 ls (by show ls∈[ls];simp)).2.1⟩
   have hloc:de≠(envIn L).locals∧ls≠(envIn L).locals:=⟨(c7.fps (none,dctK w de _) mh4 de (by show de∈[de];simp)).2.1,(c7.fps (none,accK w ls _) mh3 ls (by show ls∈[ls];simp)).2.1⟩
   have hlen:(rowsS (sigsOf (its.take i))).length≤80:=by
    have h1:=rowsS_len (l:=sigsOf (its.take i)) fun t' ht'=>(T.sigs t' (by
     have:sigsOf its=sigsOf (its.take i)++sigsOf (its.drop i):=by rw [← sigsOf_append,List.take_append_drop]
     rw [this];exact List.mem_append.mpr (.inl ht'))).names.1
    have h2:=sigs_len (its.take i)
    have h3:=T.len
    rw [List.length_take] at h2
    omega
   refine c_take (n:=n+5) (t:=t) (rows:=rowsS (sigsOf (its.take i))) (X:=X) B c7.step.inn c7.HFG hG7 ⟨by have:=ht.names.1;exact q8 ‹_› ‹_›,by have:=ht.sups;exact q1 ‹_›⟩ (fun y hy=>(ht.names.2 y hy).2) rvs a
    (rr.loop hA [de,ls] c7 (fun ad had=>.inr (by
     simp only [List.mem_cons,List.not_mem_nil,or_false] at had
     rcases had with rfl | rfl
     ·exact ⟨n0d,hloc.1⟩
     ·exact ⟨n0s,hloc.2⟩))) (fun hb=>hX _ (.sig (first_sig hq fct hb))) fun G8 s8 y8 B8 hnb=>?_
   refine st_nil (st_nil ⟨G8,?_⟩)
   have e8:rowsS (sigsOf (its.take i))++t.names.map (·,t)=rowsS (sigsOf (its.take (i+1))):=by rw [e,rowsS_append];congr 1;simp [rowsS]
   rw [e8] at B8
   have c8:=c7.rpl y8 (ρ':=(none,K)::(none,factK (Good BadSig (sigsOf (its.take i))))::(none,accK w lo [])::(none,accK w ls ((keys (rowsS (sigsOf (its.take (i+1))))).map .str))::(none,dctK w de (entL (rowsS (sigsOf (its.take (i+1))))))::(some ("self" : Str),inst w.params x dx 257 (fs3 de ls lo))::(some ("items" : Str),dat w.params (.lst (its.map encI)))::(some ("item" : Str),dat w.params (encS t))::[])
    (.keep (.keep (.keep (.chg (K:=accK w ls _) (K':=accK w ls _) rfl rfl B8.lst (.chg (K:=dctK w de _) (K':=dctK w de _) rfl rfl B8.dct .rest))))) (fun ad had=>by
     simp only [List.mem_cons,List.not_mem_nil,or_false] at had
     show ad∈[ls]++([de]++[])
     rcases had with rfl | rfl<;>simp)
   have c9:=c8.refact (p':=Good BadSig (sigsOf (its.take (i+1)))) (.tail .head) (by rw [e];exact fct.snoc hnb)
   exact c9.sub (List.sublist_append_left [_,_,_,_,_,_,_] [_])
 case done1=>
  rintro ds G4 s4 rfl c4
  unfold in1 at c4
  rw [List.length_map,List.take_length] at c4
  have hgood:=c4.fact (.head _)
  have hF:=T.fine hgood
  have hlenr:=T.rlen
  obtain ⟨hown1,hown2⟩:=T.own hgood
  have hdecl:∀ p∈rowsS (sigsOf its),p.2.decls.length≤1000∧∀ d∈p.2.decls,d.fields.length≤1000:=fun p hp=>by
   have h:=(T.sigs _ (rowsS_mem hp).1).decls
   exact ⟨by omega,fun d hd=>by have:=(h.2 d hd).1;exact q1 ‹_›⟩
  have hsup:∀ y t,look (rowsS (sigsOf its)) y=some t→t.sups.length≤1000:=fun y t h=>by have:=(T.sigs _ (rowsS_mem (mem_of_look h)).1).sups;simp only at this;exact q1 ‹_›
  have hupl:∀ p∈rowsS (sigsOf its),∀ u∈p.2.up,u.length≤1000:=fun p hp u hu=>((T.sigs _ (rowsS_mem hp).1).up u hu).2
  have hclo:Good (BadRow (rowsS (sigsOf its))) (rowsS (sigsOf its))→Clo (rowsS (sigsOf its)):=T.clo
  obtain ⟨G5,_,c5⟩:=c4.tail.frzD (rows:=rowsS (sigsOf its)) (.tail (.tail .head)) n0d
  obtain ⟨G6,_,c6⟩:=c5.frzL (ls:=ls) (.tail .head) n0s
  have XR:∀ {z},Refused its z→X z:=fun h=>hX _ h
  have hown3:ownF (rowsS (sigsOf its))=numbered 0 (declsOf (rowsS (sigsOf its)) (told (rowsS (sigsOf its))).1):=rfl
  generalize hrw:rowsS (sigsOf its)=rows at c6 hF hlenr hown1 hown2 hown3 hdecl hsup hupl hclo
  refine wpAny_execs_cons (st_for (n:=n+6) (N:=[]) (Pds:=fun l=>l=(keys rows).map .str) a noN c6 (ite_lst (ev_fact (v:=.ref ls) (evv_selfat (x:=x) (dx:=dx) (fs:=fs3 de ls lo) (K:=inst w.params x dx 257 (fs3 de ls lo)) mh3 rfl rfl rfl (by rfl) (by rfl)) mh1) fun d h=>⟨_,h,rfl⟩)
   (fun _ i=>(none,factK (Good (BadRow rows) (rows.take i)))::(none,accK w lo [])::(none,lstD w ls ((keys rows).map .str))::(none,entK w rows (.ref de))::(some ("self" : Str),inst w.params x dx 257 (fs3 de ls lo))::(some ("items" : Str),dat w.params (.lst (its.map encI)))::[]) (fun ds G' s' K h c=>(c.newfact Good.nil).swap) ?turn2 ?done2)
  case turn2=>
   rintro ds i d v' G4 s4 K rfl hdi hr c4
   rw [List.getElem?_map] at hdi
   obtain ⟨y,hy,rfl⟩:=Option.map_eq_some_iff.mp hdi
   unfold keys at hy
   rw [List.getElem?_map] at hy
   obtain ⟨p,hp,rfl⟩:=Option.map_eq_some_iff.mp hy
   have hpm:p∈rows:=List.mem_of_getElem? hp
   have htk:rows.take (i+1)=rows.take i++[p]:=by rw [List.take_add_one,hp];rfl
   have fct:=c4.fact mh1
   refine st_name c4 hr (.skip (fun e=>nomatch e) (.skip (fun e=>nomatch e) (.skip (fun e=>nomatch e) (.skip (fun e=>nomatch e) (.skip (fun e=>nomatch e) (.skip (by decide) (.skip (by decide) (.new)))))))) rfl (.inl rfl) fun s5 c5=>?_
   refine st_expr (meth_go (n:=n+6) (PA:=fun l=>l=[.str p.1]) (q:=(some ("self" : Str),inst w.params x dx 257 (fs3 de ls lo))) (dx:=dx) (fs:=fs3 de ls lo) ff_look ((evk_name (K:=inst w.params x dx 257 (fs3 de ls lo)) mh5 rfl).mono fun _ v _ _ _ hv=>hv.1) ⟨mh5,rfl,rfl⟩ (trs1 (ev_name (d:=.str p.1) mh7 rfl) (fun _ h=>by rw [h])) a c5 ?_ rfl (.inr ⟨_,_,rfl⟩) (by rfl) (by rfl) (by rfl))
   rintro G7 s7 vs ds y7 c7 rvs rfl
   obtain ⟨u,hu,hin⟩:=c7.vars (some "self",inst w.params x dx 257 (fs3 de ls lo)) mh5
   refine c_look (n:=n+3) (y:=p.1) (t:=p.2) (rows:=rows) (X:=X) ⟨⟨rfl,hin.2⟩,rfl,c7.vars (none,entK w rows (.ref de)) mh4,no_of (by rfl)⟩ hbig (look_of_nd hF.nd hpm) hsup (hupl p hpm) c7.step.inn c7.HFG rvs a
    (rr.loop hA [] c7 fun _ h=>nomatch h) (fun hb=>XR (.row hgood (hrw▸Good.first fct hp hb))) fun G8 s8 y8 hnb=>?_
   have c9:=(c7.pure y8).refact (p':=Good (BadRow rows) (rows.take (i+1))) (.tail .head) (by rw [htk];exact fct.snoc hnb)
   exact st_nil ⟨G8,c9.sub (List.sublist_append_left [_,_,_,_,_,_,_] [_])⟩
  case done2=>
   rintro ds G7 s7 rfl c7
   have hgr:=c7.fact (.head _)
   have hkl:((keys rows).map D.str).length=rows.length:=by simp [keys]
   rw [hkl,List.take_length] at hgr
   have hC:=hclo hgr
   have c8:=c7.tail
   refine st_setaX (x:=x) (dx:=dx) (fs:=fs3 de ls lo) (P:=fun l=>l=(told rows).1.map .str∧(told rows).2=[]) a c8 (fun Q' hQ=>meth_go (n:=n+6) (PA:=fun l=>l=[]) (q:=(some ("self" : Str),inst w.params x dx 257 (fs3 de ls lo))) (dx:=dx) (fs:=fs3 de ls lo) ff_first ((evk_name (K:=inst w.params x dx 257 (fs3 de ls lo)) mh3 rfl).mono fun _ v _ _ _ hv=>hv.1) ⟨mh3,rfl,rfl⟩ (trs_nil rfl) a c8 ?first rfl (.inl ⟨rfl,rfl⟩) (by rfl) (by rfl) (by rfl))
    (ρ1:=fun v=>(none,accK w lo [])::(none,lstD w ls ((keys rows).map .str))::(none,entK w rows (.ref de))::(some ("self" : Str),inst w.params x dx 257 (fs3 de ls lo++[(("ordered" : Str),v)]))::(some ("items" : Str),dat w.params (.lst (its.map encI)))::[]) (fun v=>.tail (.tail (.tail (.head)))) rfl (by simp [fs3]) (sok257 (by rfl)) rfl ?_
   case first=>
    rintro G9 s9 vs ds y9 c9 rvs rfl
    cases rvs
    obtain ⟨u,hu,hin⟩:=c9.vars (some "self",inst w.params x dx 257 (fs3 de ls lo)) mh3
    refine c_first (n:=n+1) (ls:=ls) (rows:=rows) (X:=X) ⟨⟨rfl,hin.2⟩,rfl,c9.vars (none,entK w rows (.ref de)) mh2,no_of (by rfl)⟩ rfl (c9.vars (none,lstD w ls _) mh1) hF c9.step.inn c9.HFG a (rr [] c9 fun _ h=>nomatch h) (fun p tl e=>XR (.ring hgood (hrw▸hgr) (hrw▸e))) fun v G' s' y' htl hkl=>?_
    exact hQ v G' s' (take_step y9 y') ((hkl.and fun l h=>⟨h,htl⟩).early y9.dom)
   rintro l2 l G9 s9 ⟨rfl,htold⟩ _ n02 c9
   obtain ⟨G10,_,c10⟩:=c9.frzL (ls:=l2) .head n02
   change St w (envIn L) G s [dx] ((none,lstD w l2 ((told rows).1.map .str))::(none,accK w lo [])::(none,lstD w ls ((keys rows).map .str))::(none,entK w rows (.ref de))::(some ("self" : Str),inst w.params x dx 257 (fs4 de ls lo l2))::(some ("items" : Str),dat w.params (.lst (its.map encI)))::[]) G10 s9 at c10
   refine st_setaX (x:=x) (dx:=dx) (fs:=fs4 de ls lo l2) (P:=fun l=>l=(ownF rows).map encFd) a c10 (fun Q' hQ=>meth_go (n:=n+6) (PA:=fun l=>l=[]) (q:=(some ("self" : Str),inst w.params x dx 257 (fs4 de ls lo l2))) (dx:=dx) (fs:=fs4 de ls lo l2) ff_allf ((evk_name (K:=inst w.params x dx 257 (fs4 de ls lo l2)) mh4 rfl).mono fun _ v _ _ _ hv=>hv.1) ⟨mh4,rfl,rfl⟩ (trs_nil rfl) a c10 ?allf rfl (.inl ⟨rfl,rfl⟩) (by rfl) (by rfl) (by rfl))
    (ρ1:=fun v=>(none,lstD w l2 ((told rows).1.map .str))::(none,accK w lo [])::(none,lstD w ls ((keys rows).map .str))::(none,entK w rows (.ref de))::(some ("self" : Str),inst w.params x dx 257 (fs4 de ls lo l2++[(("own_fields" : Str),v)]))::(some ("items" : Str),dat w.params (.lst (its.map encI)))::[]) (fun v=>.tail (.tail (.tail (.tail (.head))))) rfl (by simp [fs4,fs3]) (sok257 (by rfl)) rfl ?_
   case allf=>
    rintro G11 s11 vs ds y11 c11 rvs rfl
    cases rvs
    obtain ⟨u,hu,hin⟩:=c11.vars (some "self",inst w.params x dx 257 (fs4 de ls lo l2)) mh4
    refine c_allf (n:=n+5) (lo:=l2) (rows:=rows) (order:=(told rows).1) ⟨⟨rfl,hin.2⟩,rfl,c11.vars (none,entK w rows (.ref de)) mh3,no_of (by rfl)⟩ rfl (c11.vars (none,lstD w l2 _) (.head _)) (fun y hy=>look_of_mem (told_sub hy)) (by rw [← hown3];exact hown1) hdecl (by have:=told_len (rows:=rows);exact q2 ‹_› ‹_›) c11.step.inn c11.HFG A _ _ a fun v G' s' y' hkl=>?_
    exact hQ v G' s' (take_step y11 y') ((hkl.and fun l h=>h).early y11.dom)
   rintro lf l G11 s11 rfl _ n0f c11
   obtain ⟨G12,_,c12⟩:=c11.frzL (ls:=lf) .head n0f
   change St w (envIn L) G s [dx] ((none,lstD w lf ((ownF rows).map encFd))::(none,lstD w l2 ((told rows).1.map .str))::(none,accK w lo [])::(none,lstD w ls ((keys rows).map .str))::(none,entK w rows (.ref de))::(some ("self" : Str),inst w.params x dx 257 (fs5 de ls lo l2 lf))::(some ("items" : Str),dat w.params (.lst (its.map encI)))::[]) G12 s11 at c12
   refine st_expr (meth_go (n:=n+6) (PA:=fun l=>l=[]) (q:=(some ("self" : Str),inst w.params x dx 257 (fs5 de ls lo l2 lf))) (dx:=dx) (fs:=fs5 de ls lo l2 lf) ff_lookf ((evk_name (K:=inst w.params x dx 257 (fs5 de ls lo l2 lf)) mh5 rfl).mono fun _ v _ _ _ hv=>hv.1) ⟨mh5,rfl,rfl⟩ (trs_nil rfl) a c12 ?_ rfl (.inl ⟨rfl,rfl⟩) (by rfl) (by rfl) (by rfl))
   rintro G13 s13 vs ds y13 c13 rvs rfl
   cases rvs
   obtain ⟨u,hu,hin⟩:=c13.vars (some "self",inst w.params x dx 257 (fs5 de ls lo l2 lf)) mh5
   refine c_lookf (n:=n+2) (lf:=lf) (rows:=rows) (own:=ownF rows) (X:=X) ⟨⟨rfl,hin.2⟩,rfl,c13.vars (none,entK w rows (.ref de)) mh4,no_of (by rfl)⟩ hbig rfl (c13.vars (none,lstD w lf _) (.head _)) hC hown2 hown1 c13.step.inn c13.HFG a (rr [] c13 fun _ h=>nomatch h) (fun f hf=>XR (.field hgood (hrw▸hgr) (hrw▸htold) (hrw▸hf))) fun G14 s14 y14 hgf=>?_
   have c14:=(c13.pure y14).kindAt (K':=opK w lo []) (.tail (.tail .head)) (fun v h=>⟨[],rfl,h⟩) rfl rfl
   refine wpAny_execs_cons (st_for (n:=n+6) (N:=[]) (Pds:=fun l=>l=its.map encI) a noN c14 (ite_lst (ev_name (d:=.lst (its.map encI)) mh6 rfl) fun d h=>⟨_,h,rfl⟩)
    (fun _ i=>(none,factK (Good (BadOpn rows) (opnsOf (its.take i))))::(none,lstD w lf ((ownF rows).map encFd))::(none,lstD w l2 ((told rows).1.map .str))::(none,opK w lo ((opnsOf (its.take i)).map alOf))::(none,lstD w ls ((keys rows).map .str))::(none,entK w rows (.ref de))::(some ("self" : Str),inst w.params x dx 257 (fs5 de ls lo l2 lf))::(some ("items" : Str),dat w.params (.lst (its.map encI)))::[]) (fun ds G' s' K h c=>(c.newfact Good.nil).swap) ?turn3 ?done3)
   case turn3=>
    rintro ds i d v' G15 s15 K rfl hdi hr c15
    rw [List.getElem?_map] at hdi
    obtain ⟨q,hq,rfl⟩:=Option.map_eq_some_iff.mp hdi
    obtain ⟨l,hl1,hl2,hl3⟩:=encI_tup q
    have fct:=c15.fact mh1
    refine st_name c15 hr (.skip (fun e=>nomatch e) (.skip (fun e=>nomatch e) (.skip (fun e=>nomatch e) (.skip (fun e=>nomatch e) (.skip (fun e=>nomatch e) (.skip (fun e=>nomatch e) (.skip (fun e=>nomatch e) (.skip (by decide) (.skip (by decide) (.new)))))))))) rfl (.inl rfl) fun s16 c16=>?_
    refine st_if a noN c16 (P:=fun b=>b=(kindD q == "open")) (tr_eq_str (pu_tup (l:=l) (by rw [← hl1];exact ev_name (d:=encI q) mh9 rfl) (by exact q1 ‹_›) hl3) ev_str (by exact fun _ _ a b=>⟨_,_,a,b,rfl⟩)) ?_
    rintro bb G17 s17 rfl c17
    cases q with
    | sig t=>
     rw [if_neg (by show ¬ (("sig" : Str)==("open" : Str))=true;decide)]
     refine st_nil (st_nil ⟨G17,?_⟩)
     rw [op1_sig hq]
     exact c17.sub (List.sublist_append_left [_,_,_,_,_,_,_,_,_] [_])
    | opn q=>
     rw [if_pos (by show (("open" : Str)==("open" : Str))=true;decide)]
     have ht:=T.opns q (mem_opns hq)
     have e:=op1_opn hq
     refine st_expr (meth_go (n:=n+6) (PA:=fun l=>l=[encI (.opn q)]) (q:=(some ("self" : Str),inst w.params x dx 257 (fs5 de ls lo l2 lf))) (dx:=dx) (fs:=fs5 de ls lo l2 lf) ff_order ((evk_name (K:=inst w.params x dx 257 (fs5 de ls lo l2 lf)) mh7 rfl).mono fun _ v _ _ _ hv=>hv.1) ⟨mh7,rfl,rfl⟩ (trs1 (ev_name (d:=encI (.opn q)) mh9 rfl) (fun _ h=>by rw [h])) a c17 ?_ rfl (.inr ⟨_,_,rfl⟩) (by rfl) (by rfl) (by rfl))
     rintro G18 s18 vs ds y18 c18 rvs rfl
     obtain ⟨u,hu,hin⟩:=c18.vars (some "self",inst w.params x dx 257 (fs5 de ls lo l2 lf)) mh7
     obtain ⟨ops,hops,hlist⟩:=c18.vars (none,opK w lo _) mh4
     have hsep:=(List.pairwise_cons.mp (List.pairwise_cons.mp (List.pairwise_cons.mp (List.pairwise_cons.mp (List.pairwise_cons.mp c18.sep).2).2).2).2).1
     have hap:lo∉[x,dx]:=(hsep _ mh2).2.1 lo (by show lo∈[lo];simp)
     have hloc:lo≠(envIn L).locals:=(c18.fps (none,opK w lo _) mh4 lo (by show lo∈[lo];simp)).2.1
     have hlo:ops.length≤20:=by
      have h1:ops.length=((opnsOf (its.take i)).map alOf).length:=by rw [← hops];simp
      have h2:=opns_len (its.take i)
      have h3:=T.len
      rw [List.length_map] at h1
      rw [List.length_take] at h2
      omega
     refine c_order (n:=n+5) (o:=q) (ops:=ops) (rows:=rows) (X:=X) ⟨⟨rfl,hin.2⟩,rfl,c18.vars (none,entK w rows (.ref de)) mh6,no_of (by rfl)⟩ hbig rfl hlist (c18.ows (none,opK w lo _) mh4 lo (by show lo∈[lo];simp)).2.1 (by simpa using hap) ht.ok ⟨by exact q1 ‹_›,fun p hp=>?_⟩ c18.step.inn c18.HFG rvs a
      (rr.loop hA [lo] c18 (fun ad had=>.inr (by rw [List.mem_singleton.mp had];exact ⟨n0o,hloc⟩))) (fun hb=>XR (.opn hgood (hrw▸hgr) (hrw▸htold) (hrw▸hgf) (hrw▸first_opn hq fct ((bado hops).mp hb)))) fun G19 s19 y19 hnb ⟨a0,hl19⟩=>?_
     ·have hm:p.1∈ops.map (·.1):=List.mem_map_of_mem hp
      rw [hops] at hm
      obtain ⟨o',ho',e'⟩:=List.mem_map.mp hm
      rw [← e']
      refine (T.opns o' ?_).ok.2.2.2.1
      have:opnsOf its=opnsOf (its.take i)++opnsOf (its.drop i):=by rw [← opnsOf_append,List.take_append_drop]
      rw [this];exact List.mem_append.mpr (.inl ho')
     have c20:=c18.rpl y19 (ρ':=(none,K)::(none,factK (Good (BadOpn rows) (opnsOf (its.take i))))::(none,lstD w lf ((ownF rows).map encFd))::(none,lstD w l2 ((told rows).1.map .str))::(none,opK w lo ((opnsOf (its.take (i+1))).map alOf))::(none,lstD w ls ((keys rows).map .str))::(none,entK w rows (.ref de))::(some ("self" : Str),inst w.params x dx 257 (fs5 de ls lo l2 lf))::(some ("items" : Str),dat w.params (.lst (its.map encI)))::(some ("item" : Str),dat w.params (encI (.opn q)))::[])
      (.keep (.keep (.keep (.keep (.chg (K:=opK w lo _) (K':=opK w lo _) rfl rfl ⟨ops++[(alOf q,a0)],by rw [e];simp [hops],hl19⟩ .rest))))) (fun ad had=>by
       rw [List.mem_singleton.mp had]
       show lo∈[lo]++[]
       simp)
     have c21:=c20.refact (p':=Good (BadOpn rows) (opnsOf (its.take (i+1)))) (.tail .head) (by rw [e];exact fct.snoc fun h=>hnb ((bado hops).mpr h))
     exact st_nil (st_nil ⟨G19,c21.sub (List.sublist_append_left [_,_,_,_,_,_,_,_,_] [_])⟩)
   case done3=>
    rintro ds G15 s15 rfl c15
    have hgo:=c15.fact (.head _)
    rw [List.length_map,List.take_length] at hgo
    obtain ⟨u,hu,hin⟩:=c15.vars (some "self",inst w.params x dx 257 (fs5 de ls lo l2 lf)) mh6
    refine st_nil (kk .next s15 (k G15 s15 (fs5 de ls lo l2 lf) de l2 lf c15.step ?_ ?_))
    ·exact ⟨hgood,hrw▸hgr,hrw▸htold,hrw▸hgf,hrw▸hgo⟩
    ·refine ⟨⟨rfl,hin.2⟩,rfl,?_,rfl,?_,rfl,?_,no_of (by rfl),hbig⟩
     ·rw [hrw];exact c15.vars (none,entK w rows (.ref de)) mh5
     ·rw [hrw];exact c15.vars (none,lstD w l2 _) mh2
     ·rw [hrw];exact c15.vars (none,lstD w lf _) mh1
end Mine
end
section
namespace Mine
variable {w:World} {env:Env} {n:Nat} {N:List Addr} {ρ:Rho}
variable {x dx de ls lo lf:Addr} {fs:List (Str×Value)} {rows:List (Str×Sg)} {ve:Value} {o:PySem.Expr} {its:List Im}
theorem AOK.make {A:Around} {C:Addr} {vals:List Value} (a:AOK (n+1) A):AOK n (A.under (.builtin "type.__call__" ⟨.ref C::vals,[]⟩)):=by
 refine ⟨?_,?_,a.2.2⟩
 ·show A.depth+1+n≤900;have:=a.1;omega
 ·have h1:=a.2.1
  have h2:(Code.builtin "type.__call__" ⟨.ref C::vals,[]⟩).cUnits≤8:=by first | exact Nat.le_of_ble_eq_true rfl | (show (1:Nat)≤8;decide) | (show (4:Nat)≤8;decide) | (unfold Code.cUnits;simp [Code.frames])
  show A.units+(Code.builtin "type.__call__" ⟨.ref C::vals,[]⟩).cUnits+8 * n≤9000
  omega
theorem RX.under {A A':Around} {X:Int→Prop} {s:Shared} {E:Value→Shared→Prop} (r:RX w A N X s E) (h:A'.frames=A.frames):RX w A' N X s E:=fun z hz=>by
 obtain ⟨h0,fr,l,h1,h2,h3⟩:=r z hz
 exact ⟨h0,fr,l,h.trans h1,h2,h3⟩
set_option maxHeartbeats 1000000 in
theorem c_new (T:Tame its) {G:Fz} {s:Shared} {v:Value} {A:Around} {Q:Value→Shared→Prop} {E:Value→Shared→Prop} {X:Int→Prop} (rv:Rep w.params G v (.lst (its.map encI))) (i:Inn G s.heap) (b:Bs w G)
  (a:AOK (n+8) A) (r:RX w A N X s E) (hX:∀ z,Refused its z→X z)
  (k:∀ x dx G' s' fs de lo lf,s.heap.get? x=none→s.heap.get? dx=none→G' x=none→G' dx=none→Step G s [] G' s'→Taken its→SigO w x dx its fs de lo lf G' s'.heap→Q (.ref x) s'):wpAny (model pw w) A (call (.ref 257) [v]) Q E s:=by
 have X0:=(b _ i).K
 obtain ⟨h,g,d,t,os⟩:=s
 refine wpAny_call (make_core (C:=257) (makes_of X0 (by rfl)) (looks_findIn X0 (show findIn (KK w.params) (.ref 257) "__init__" = some (some (.ref 104)) from rfl)) (fun self=>bind_fn X0 self (by rfl)) (.inl rfl) ?_)
 have y1:Step G ⟨h,g,d,t,os⟩ [] G ⟨(h.push emptyDict).push (instObj 257 h.objs.size),g,d,t,os⟩:=Step.of_keeps i ⟨_,_,rfl,fun b o e=>Heap.get?_push_of_some _ (Heap.get?_push_of_some _ e)⟩
 have ndx:h.get? h.objs.size=none:=fresh_size h
 have nx:h.get? (h.objs.size+1)=none:=Heap.get?_none_of_le (Nat.le_succ _)
 have hx:((h.push emptyDict).push (instObj 257 h.objs.size)).get? (h.objs.size+1)=some (instObj 257 h.objs.size):=by heap_get
 have hdx:((h.push emptyDict).push (instObj 257 h.objs.size)).get? h.objs.size=some (dictOf [] 0):=Heap.get?_push_of_some _ (Heap.get?_push_at rfl rfl)
 have g0:∀ b,h.get? b=none→G b=none:=fun b e=>by
  cases q:G b with
  | none=>rfl
  | some o=>have:=i _ _ q;rw [e] at this;cases this
 have rd:RX w A ([h.objs.size]++N) X ⟨h,g,d,t,os⟩ E:=r.grow fun ad had=>by rw [List.mem_singleton.mp had];exact ndx
 have rd2:RX w A [h.objs.size] X ⟨h,g,d,t,os⟩ E:=rd.sub (fun ad had=>List.mem_append.mpr (.inl had)) fun z h=>h
 refine c_init (n:=n) (x:=h.objs.size+1) (dx:=h.objs.size) (its:=its) T ⟨rfl,hx,[],0,hdx,.nil⟩ (g0 _ ndx) rv y1.inn b a.make ((rd2.step (y1.mono fun _ h=>nomatch h)).under rfl) (fun e s' he=>he) hX fun G' s' fs de lo lf y hT hS=>⟨rfl,?_⟩
 refine k (h.objs.size+1) h.objs.size G' s' fs de lo lf nx ndx (y.out (g0 _ nx) (by rw [hx];exact fun h=>nomatch h)) (y.out (g0 _ ndx) (by rw [hdx];exact fun h=>nomatch h)) (y1.trans y fun ad had=>.inr (by rw [List.mem_singleton.mp had];exact ndx)) hT hS
theorem new_go {np pos:Pos} {e:PySem.Expr} {A:Around} {G₀ G:Fz} {s₀ s:Shared} {M:List Addr} {Q:Value→Shared→Prop} {E:Value→Shared→Prop} {X:Int→Prop} (T:Tame its) (a:AOK (n+8) A) (c:St w env G₀ s₀ M ρ G s) (r:RX w A M X s E) (hX:∀ z,Refused its z→X z)
  (he:Ev w env (n+8) [] ρ e (fun d=>d=.lst (its.map encI))) (hx:env.kindOf "Signatures" = some .globalImplicit) (hk:env.scope.kind=.function) (hg:env.globals=mainGlobals)
  (k:∀ x dx G' s' fs de lo lf,s.heap.get? x=none→s.heap.get? dx=none→G' x=none→G' dx=none→Step G s [] G' s'→Taken its→SigO w x dx its fs de lo lf G' s'.heap→Q (.ref x) s')
  (ht:backTo pos (starEach [e] env)=[(false,eval e env)]:=by rfl) :
  wpAny (model pw w) A (eval (.Call (.Name "Signatures" np) [e] [] pos) env) Q E s:=by
 refine wpAny_Call_ofName ((evv_glob (v:=.ref 257) (n:=n+8) (N:=[]) (ρ:=ρ) hx (by rfl) hk hg) A G₀ s₀ M G s _ _ a noN c fun f G1 s1 y1 c1 e=>?_)
 subst e
 rw [ht]
 refine callWith_of (P:=fun h=>(KK w.params).In h) rfl (fun h X=>keeps_K (K:=KK w.params) (f:=.ref 257) (by rfl) h X) (Calls.evalArgs_plain (Calls.spliced_cons (he A G₀ s₀ M G1 s1 _ _ a noN c1 fun v1 G2 s2 y2 c2 ⟨d1,r1,p1⟩=>wpAny_pure ⟨c2.bs.K,?_⟩)))
 subst p1
 have y:=take_step y1 y2
 have nn:∀ b,s2.heap.get? b=none→s.heap.get? b=none:=fun b hb=>Classical.byContradiction fun q=>y.dom b q hb
 exact c_new (n:=n) T r1 c2.step.inn c2.HFG a (r.step (y.mono fun _ h=>nomatch h)) hX fun x dx G' s' fs de lo lf h1 h2 h3 h4 h5 h6 h7=>k x dx G' s' fs de lo lf (nn _ h1) (nn _ h2) h3 h4 (take_step y h5) h6 h7
noncomputable def sigK (w:World) (x dx:Addr) (its:List Im) (fs:List (Str×Value)) (de lo lf:Addr):Kd:=
 ⟨fun v G h=>(inst w.params x dx 257 fs).p v G h∧Rep w.params G (.ref de) (.dct (entL (rowsS (sigsOf its))))∧Rep w.params G (.ref lo) (.lst ((told (rowsS (sigsOf its))).1.map .str))∧Rep w.params G (.ref lf) (.lst ((ownF (rowsS (sigsOf its))).map encFd)),[x,dx],[dx],
  fun hl he ⟨h1,h2,h3,h4⟩=>⟨(inst w.params x dx 257 fs).st hl he h1,h2.mono hl,h3.mono hl,h4.mono hl⟩⟩
structure SigF (fs:List (Str×Value)) (de lo lf:Addr):Prop where
 e1:look fs "entries" = some (.ref de)
 e2:look fs "ordered" = some (.ref lo)
 e3:look fs "own_fields" = some (.ref lf)
 no:∀ y,look fs y≠none→y∈attrs
 big:de≠1
theorem evo_new {np pos:Pos} {e:PySem.Expr} (T:Tame its) (hT:Taken its) (he:Ev w env (n+8) [] ρ e (fun d=>d=.lst (its.map encI))) (hx:env.kindOf "Signatures" = some .globalImplicit) (hk:env.scope.kind=.function) (hg:env.globals=mainGlobals) (ht:backTo pos (starEach [e] env)=[(false,eval e env)]:=by rfl) :
  EvO w env (n+8) [] ρ (.Call (.Name "Signatures" np) [e] [] pos) (fun K=>∃ x dx fs de lo lf,K=sigK w x dx its fs de lo lf∧SigF fs de lo lf):=fun A G₀ s₀ M G s Q E a b c k=>
 new_go (n:=n) T a c (RX.no) (fun z hz=>hT.not hz) he hx hk hg (fun x dx G' s' fs de lo lf n1 n2 g1 g2 y _ S=>k _ G' s' y (c.pure y) ⟨sigK w x dx its fs de lo lf,⟨x,dx,fs,de,lo,lf,rfl,S.e1,S.e2,S.e3,S.no,S.big⟩,⟨S.inst,S.r1,S.r2,S.r3⟩,(fun ad had=>by
  obtain ⟨_,q1,es,m,q2,_⟩:=S.inst
  rcases List.mem_cons.mp had with e | e
  ·rw [e,q1];exact ⟨(fun h=>(nomatch h)),n1⟩
  ·rw [List.mem_singleton.mp e,q2];exact ⟨(fun h=>(nomatch h)),n2⟩),(fun ad had=>by
  rw [List.mem_singleton.mp had]
  exact ⟨by show dx∈[x,dx];simp,g2⟩)⟩) ht
set_option maxHeartbeats 1000000 in
theorem c_names {l:List D} {G:Fz} {s:Shared} (hi:(inst w.params x dx 257 fs).p (.ref x) G s.heap) (h1:look fs "ordered" = some (.ref lo)) (h2:Rep w.params G (.ref lo) (.lst l)) (hl:l.length≤1000000) (i:Inn G s.heap) (b:Bs w G) :
  Op w (n+1) [] G s (call (.ref 156) [.ref x]) (KL w (fun l'=>l'=l) s):=by
 refine op_met ff_names [] [lstD w lo l] (bindS0 fun _=>rfl) (by decide) (by decide +kernel) i b hi (fun K hK=>?_) .nil rfl ?_
 ·rw [List.mem_singleton.mp hK];exact ⟨rfl,h2,fun _ h=>nomatch h⟩
 rintro env A s₁ Q E rfl a c k
 exact st_ret a noN c (K:=KL w (fun l'=>l'=l)) (evl_list_of (evv_blt rfl rfl rfl rfl rfl rfl) (ev_fact (v:=.ref lo) (evv_selfat (K:=(inst w.params x dx 257 fs).ro) (.head _) rfl rfl h1 (by rfl) (by rfl)) mh1) rfl (fun v G s i ⟨d,r,e⟩=>by
   subst e
   replace r:=r.inv;obtain ⟨ad,vs,m,rfl,hg,r⟩:=r
   exact ⟨ad,_,vs,m,_,rfl,i _ _ hg,.inl rfl,r,hl,rfl⟩)) fun v G' s' y z q=>k _ _ _ z.step (q.early c.step.dom)
set_option maxHeartbeats 1000000 in
theorem c_fields {l:List D} {G:Fz} {s:Shared} (hi:(inst w.params x dx 257 fs).p (.ref x) G s.heap) (h1:look fs "own_fields" = some (.ref lf)) (h2:Rep w.params G (.ref lf) (.lst l)) (hl:l.length≤1000000) (i:Inn G s.heap) (b:Bs w G) :
  Op w (n+1) [] G s (call (.ref 240) [.ref x]) (KL w (fun l'=>l'=l) s):=by
 refine op_met ff_fields [] [lstD w lf l] (bindS0 fun _=>rfl) (by decide) (by decide +kernel) i b hi (fun K hK=>?_) .nil rfl ?_
 ·rw [List.mem_singleton.mp hK];exact ⟨rfl,h2,fun _ h=>nomatch h⟩
 rintro env A s₁ Q E rfl a c k
 exact st_ret a noN c (K:=KL w (fun l'=>l'=l)) (evl_list_of (evv_blt rfl rfl rfl rfl rfl rfl) (ev_fact (v:=.ref lf) (evv_selfat (K:=(inst w.params x dx 257 fs).ro) (.head _) rfl rfl h1 (by rfl) (by rfl)) mh1) rfl (fun v G s i ⟨d,r,e⟩=>by
   subst e
   replace r:=r.inv;obtain ⟨ad,vs,m,rfl,hg,r⟩:=r
   exact ⟨ad,_,vs,m,_,rfl,i _ _ hg,.inl rfl,r,hl,rfl⟩)) fun v G' s' y z q=>k _ _ _ z.step (q.early c.step.dom)
set_option maxHeartbeats 1000000 in
theorem c_has {y:Str} {G:Fz} {s:Shared} {vs:List Value} (R:Rd w x dx fs rows (.ref de) G s) (hde:de≠1) (i:Inn G s.heap) (b:Bs w G) (r:RepL w.params G vs [.str y]) :
  Op w (n+1) [] G s (call (.ref 163) (.ref x::vs)) (KD w (fun d=>∃ b,d=.bool b∧b=decide (y∈keys rows))):=by
 refine op_met ff_has ["name"] [entK w rows (.ref de)] (bindS1 fun _ _=>rfl) (by decide) (by decide +kernel) i b R.inst R.facts r rfl ?_
 rintro env A s₁ Q E rfl a c k
 exact st_ret a noN c (ev_inD (ds:=entL rows) (ev_name (d:=.str y) mh2 rfl) (evd_dat (evv_selfat (K:=(inst w.params x dx 257 fs).ro) (.head _) rfl rfl R.att (by rfl) (by rfl)) mh1 hde)
   (by rintro _ rfl;exact ⟨y,rfl,by rw [entL_keys]⟩)) fun v G' s' y z q=>k _ _ _ z.step q
theorem evl_names {apos pos:Pos} {l:List D} (O:Own w env (n+1) ρ o x dx fs rows ve) (h1:look fs "ordered" = some (.ref lo)) (h2:(none,lstD w lo l)∈ρ) (hl:l.length≤1000000)
  (hbase:attributeBase o "names" env (eval o env)=eval o env:=by rfl) (hline:(apos.endLine==pos.line)=true:=by rfl):EvL w env (n+1) [] ρ (.Call (.Attribute o "names" apos) [] [] pos) (fun l'=>l'=l):=
 evk_self (PA:=fun l=>l=[]) ff_names O (trs_nil rfl) (fun _ _ _ _ _ x h=>x.early h) (fun G s vs ds R i b hh r p=>by
  subst p;obtain ⟨_,rfl⟩:=r.inv
  exact c_names R.inst h1 (hh _ h2) hl i b) (by decide) (by rfl) rfl (.inl ⟨rfl,rfl⟩) (by rfl) (by rfl) hbase hline
theorem evl_fields {apos pos:Pos} {l:List D} (O:Own w env (n+1) ρ o x dx fs rows ve) (h1:look fs "own_fields" = some (.ref lf)) (h2:(none,lstD w lf l)∈ρ) (hl:l.length≤1000000)
  (hbase:attributeBase o "fields" env (eval o env)=eval o env:=by rfl) (hline:(apos.endLine==pos.line)=true:=by rfl):EvL w env (n+1) [] ρ (.Call (.Attribute o "fields" apos) [] [] pos) (fun l'=>l'=l):=
 evk_self (PA:=fun l=>l=[]) ff_fields O (trs_nil rfl) (fun _ _ _ _ _ x h=>x.early h) (fun G s vs ds R i b hh r p=>by
  subst p;obtain ⟨_,rfl⟩:=r.inv
  exact c_fields R.inst h1 (hh _ h2) hl i b) (by decide) (by rfl) rfl (.inl ⟨rfl,rfl⟩) (by rfl) (by rfl) hbase hline
theorem ev_has {e:PySem.Expr} {apos pos:Pos} {y:Str} (O:Own w env (n+1) ρ o x dx fs rows (.ref de)) (hde:de≠1) (he:Ev w env (n+1) [] ρ e (fun d=>d=.str y)) (hs:backTo pos (starEach [e] env)=[(false,eval e env)]:=by rfl)
  (hbase:attributeBase o "has" env (eval o env)=eval o env:=by rfl) (hline:(apos.endLine==pos.line)=true:=by rfl):Ev w env (n+1) [] ρ (.Call (.Attribute o "has" apos) [e] [] pos) (fun d=>∃ b,d=.bool b∧b=decide (y∈keys rows)):=
 evk_self (PA:=fun l=>l=[.str y]) ff_has O (trs1 he (fun _ h=>by rw [h])) (fun _ _ _ _ _ x _=>x) (fun G s vs ds R i b _ r p=>by subst p;exact c_has R hde i b r) (by decide) (by rfl) hs (.inr ⟨_,_,rfl⟩) (by rfl) (by rfl) hbase hline
end Mine
end
section
namespace Mine
variable {w:World} {env:Env} {n:Nat} {N:List Addr} {ρ:Rho}
variable {x dx de ls lo lf:Addr} {fs:List (Str×Value)} {rows:List (Str×Sg)} {ve:Value} {o:PySem.Expr} {its:List Im}
theorem exc_attr {A:Around} {E:Value→Shared→Prop} {s:Shared} {e d:Addr} {vs:Array Value} {sl:Array (Option Value)} {es:List DictEntry} {m:Nat} {v:Value} {expr:Bool} {Q:Value→Shared→Prop} (X:(KK w.params).In s.heap)
  (he:s.heap.get? e=some ⟨.ref 88,some d,.fields vs,sl⟩) (hd:s.heap.get? d=some (dictOf es m)) (f:FS w.params es fs) (hv:look fs "spot" = some v) (hh:handedIn v=true) (hq:Q v {s with toks:=s.toks+1}) :
  wpAny (model pw w) A (getAttr (.ref e) "spot" expr) Q E s:=by
 have FX:=PySem.F.attr_Exception
 have I:InstAt s.heap e ⟨.ref 88,some d,.fields vs,sl⟩ 88 (some (dictOf es m)):=⟨he,rfl,rfl,hd⟩
 have L0:=I.type (M:=model pw w)
 have L1:Looks (model pw w) s.heap (typeLookup (.ref 88) "__getattribute__") (some (.builtin "BaseException.__getattribute__")):=looks_findIn X (by rfl)
 have L2:Looks (model pw w) s.heap (hookBefore (.ref 88)) none:=looks_hook X (by rfl)
 have LF:Looks (model pw w) s.heap (Builtin.ObjectAttr.find (.ref e) (.ref 88) "spot") (.value v):=looks_find X I (findObj_own (by rfl) (attr:=none) (by rfl) (by rfl) (by rw [lookIn_dict,f.getL,hv]))
 have sub:Looks (model pw w) s.heap (isInstance (.ref e) (.type "BaseException")) true:=I.type.andThen (looks_mroIn X (by rfl))
 obtain ⟨hp,g,dr,tk,os⟩:=s
 unfold getAttr getAttrBy
 refine wpAny_bind (wpAny_mkText (wpAny_holding (wpAny_bind (L0.at (wpAny_bind (L1.at ?_))))))
 have hx2:(Value.builtin "BaseException.__getattribute__" == Value.builtin "object.__getattribute__")=false:=by decide +kernel
 simp only [hx2,Bool.and_false,Bool.false_eq_true,if_false]
 unfold getAttrByItsOwn callGetattribute boundAndCalled
 refine wpAny_bind (L2.at (wpAny_bind (wpAny_attempt (wpAny_holding ?_))))
 have hx0:(expr&&onTheHeap (Value.builtin "BaseException.__getattribute__"))=false:=by cases expr<;>rfl
 rw [if_neg (by rw [hx0];decide),FX.ga.bind]
 refine wpAny_bind (wpAny_pure (wpAny_call (codeAny_call_builtin FX.ga.plain PySem.F.entry_bexc_ga ?_)))
 refine @check_slot (model pw w) _ _ _ "BaseException.__getattribute__" "BaseException" "__getattribute__" (.ref e) [.str "spot" tk] [] _ (by decide +kernel) (by decide +kernel) sub (PySem.F.args_bexc_ga _ _) ?_
 refine wpAny_bind (wpAny_pure (wpAny_bind (wpAny_pure (wpAny_bind (L0.at (wpAny_bind (LF.at ?_)))))))
 refine wpAny_pure ?_
 show wpAny _ _ (handedOut v) _ _ _
 rw [handedOut_of hh];exact wpAny_pure hq
theorem Kp.ns {S:List Addr} {h h':Heap} {L:Addr} {m:Str→Option Value} (k:Kp S [] h h') (hn:h.Ns L m):h'.Ns L m:=by
 obtain ⟨o,es,ep,e,d,r⟩:=hn
 obtain ⟨sl,h1,_⟩:=k L o e (fun h=>nomatch h)
 exact ⟨_,es,ep,h1,d,r⟩
theorem Kp.inn {S:List Addr} {G:Fz} {h h':Heap} (k:Kp S [] h h') (i:Inn G h) (hS:∀ L∈S,G L=none):Inn G h':=fun b o e=>by
 obtain ⟨sl,h1,h2⟩:=k b o (i b o e) (fun h=>nomatch h)
 have:=h2 fun hm=>by rw [hS b hm] at e;cases e
 subst this
 exact h1
noncomputable def envSp (L:Addr):Env:=callEnvC (lawFd 23 "_law_spot" 347) L 348
set_option maxHeartbeats 4000000 in
theorem c_lspot {lo:List Env} (T:Tame its) {G:Fz} {s:Shared} {v:Value} {A:Around} {Q:Value→Shared→Prop} {E:Value→Shared→Prop} (rv:Rep w.params G v (.lst (its.map encI))) (i:Inn G s.heap) (b:Bs w G) (a:AOK (n+9) A) (hA:A.frames=some lo) (hff:s.heap.FunFrames {} lo) (hGl:∀ L∈lo.filterMap (·.frame),G L=none)
  (k1:∀ G' s',Step G s [] G' s'→Taken its→Q .none s')
  (k2:∀ z t s',Refused its z→Same s s'→Kp (lo.filterMap (·.frame)) [] s.heap s'.heap→Q (.int z t) s'):wpAny (model pw w) A (call (.ref 348) [v]) Q E s:=by
 refine wpAny_call (codeAny_fn (N:=[]) (ρ₀:=[(some ("items" : Str),dat w.params (.lst (its.map encI)))]) ff_lspot (binds:=[(("items" : Str),v)]) rfl (by show [("items" : Str)].Nodup;decide) (by show ∀ y∈[("items" : Str)],_;decide +kernel) i b (by have:=a.1;show A.depth < 1000;omega) ?_ ?_ ?_ (List.pairwise_singleton _ _) fun env s₁ he c=>?_)
 ·intro q hq
  rw [List.mem_singleton.mp hq]
  exact ⟨v,.head _,rv⟩
 ·intro q hq
  rw [List.mem_singleton.mp hq]
  exact fun _ h=>nomatch h
 ·intro q hq
  rw [List.mem_singleton.mp hq]
  exact fun _ h=>nomatch h
 change env=envSp _ at he
 have newL:s.heap.get? env.locals=none:=c.newL
 generalize s.heap.objs.size=L at he
 subst he
 have a1:AOK (n+8) (A.deeper (envSp L)):=⟨by have:=a.1;show A.depth+1+(n+8)≤900;omega,by have:=a.2.1;show A.units+3+8 * (n+8)≤9000;omega,a.2.2⟩
 have hA1:(A.deeper (envSp L)).frames=some (envSp L::lo):=Around.frames_deeper hA
 obtain ⟨m,hm⟩:=c.fr
 have hfr:(envSp L).frame=some L:=rfl
 have key:∀ l:List Env,s.heap.FunFrames {} l→s₁.heap.FunFrames {} l:=fun l h=>h.of_keeps fun b o hb hnf=>⟨o,c.step.keep _ _ (fun h=>nomatch h) hb,rfl⟩
 have ff1:s₁.heap.FunFrames {} (envSp L::lo):=⟨by show ScopeKind.function≠.module;decide,⟨L,by
  obtain ⟨o,es,ep,e,d,_⟩:=hm
  exact ⟨o,hfr,rfl,e,fun vs q=>by rw [d] at q;cases q⟩⟩,key lo hff⟩
 have hGS:∀ L'∈(envSp L::lo).filterMap (·.frame),G L'=none:=fun L' h=>by
  rw [List.filterMap_cons,hfr] at h
  rcases List.mem_cons.mp h with e | h
  ·rw [e];exact c.GL
  ·exact hGl L' h
 refine wpAny_execs_cons (wpAny_Try_except ?_)
 refine st_expr (new_go (n:=n) (its:=its) (X:=Refused its) T a1 c (M:=[]) (fun z hz=>⟨s₁.heap,(envSp L::lo).filterMap (·.frame),envSp L::lo,hA1,⟨ff1,fun L' h=>⟨.inl h,fun h=>nomatch h⟩,.refl,fun _ h=>nomatch h⟩,fun e d s' hs air=>?_⟩) (fun z h=>h) (ev_name (.head _) rfl) rfl rfl rfl fun x dx G2 s2 fs de lo' lf n1 n2 g1 g2 y2 hT hS=>?_)
 ·
  refine air_note hA1 air fun h1 air1=>?_
  refine air_flight air1 fun h2 air2=>?_
  have kp2:=air2.keep
  have i2:Inn G h2:=kp2.inn c.step.inn hGS
  have F2:HF w h2:=b _ i2
  obtain ⟨vs,sl,hex,hsz,htr⟩:=air2.ex
  refine wpAny_handleBy_cons (codeAny_handlers_test ?_) (by intro q;cases q)
  obtain ⟨m3,hn3,hm3⟩:=ns_made F2.K (keys3 w.params)
  refine Calls.Name_function_global rfl rfl (Calls.loadGlobal_global (env:=envSp L) hn3 (hm3 _ _ (show nsIn (KK w.params) 3 "KindFault" = some (some (.ref 88)) from rfl)) ?_) (by decide)
  obtain ⟨nm,q,N',bs,hdct,sn,sub,ab,col,dd,k0,k1',k2',k3,k5,hC⟩:=kf_of F2.K
  refine wpAny_excMatches_sub_self hC hex rfl (by decide +kernel) ?_
  refine codeAny_handlers_suite_as ?_
  refine air_flight (fl:=none) air2 fun h3 air3=>?_
  have kp3:=air3.keep
  have hns3:h3.Ns L m:=kp3.ns hm
  obtain ⟨vs3,sl3,hex3,hsz3,_⟩:=air3.ex
  obtain ⟨es3,m3',fs3,t3,hd3,hf3,hsp3⟩:=air3.sp
  have hLd:L≠d:=(air3.fn L (by rw [List.filterMap_cons,hfr];exact .head _)).2
  have hLe:L≠e:=fun q=>by
   obtain ⟨o,es,ep,e1,e2,_⟩:=hns3
   rw [q,hex3] at e1;cases e1;cases e2
  refine wpAny_storeName_local rfl hns3 (fun h4 hn4 hsb4=>?_) rfl
  have k4:∀ b o,b≠L→h3.get? b=some o→h4.get? b=some o:=fun b o hb x=>(hsb4.2 b hb).trans x
  have i3:Inn G h3:=kp3.inn c.step.inn hGS
  have i4:Inn G h4:=fun b o x=>k4 b o (fun q=>by rw [q] at x;have hg:G L=none:=c.GL;rw [hg] at x;cases x) (i3 b o x)
  have F4:HF w h4:=b _ i4
  refine wpAny_execs_cons (wpAny_Return_some ?_)
  rw [arm_eval_Attribute,show attributeBase (.Name "fault" _) "spot" (envSp L) (eval (.Name "fault" _) (envSp L))=eval (.Name "fault" _) (envSp L) from rfl]
  refine wpAny_bind (wpAny_Name (wpAny_loadName_local rfl rfl hn4 (v:=.ref e) (by simp) (wpAny_bind (wpAny_standAt (wpAny_bind (wpAny_holding ?_))))) (by decide))
  refine exc_attr F4.K (k4 _ _ (Ne.symm hLe) hex3) (k4 _ _ (Ne.symm hLd) hd3) hf3 hsp3 rfl ?_
  refine wpAny_bind (wpAny_of_eq (show letTemporaryGo (.Name "fault" _) (.ref e) _=pure () from rfl) (wpAny_pure ?_))
  show wpAny _ _ _ _ _ _
  refine wpAny_nameGoes rfl hn4 rfl fun h5 m5 hn5 hsb5=>?_
  refine k2 z t3 _ hz ?_ fun b0 o0 hb0 _=>?_
  ·obtain ⟨h0,tk0,e0⟩:=c.step.same
   exact (Same.trans ⟨h0,tk0,e0⟩ hs).trans ⟨_,_,rfl⟩
  ·have hbL:b0≠L:=fun q=>by have nl:s.heap.get? L=none:=newL;rw [q,nl] at hb0;cases hb0
   obtain ⟨sl',g1,g2⟩:=kp3 b0 o0 (c.step.keep _ _ (fun h=>nomatch h) hb0) (fun h=>nomatch h)
   refine ⟨sl',(hsb5.2 b0 hbL).trans (k4 _ _ hbL g1),fun hn=>g2 fun hm=>?_⟩
   rw [List.filterMap_cons,hfr] at hm
   rcases List.mem_cons.mp hm with q | q
   ·exact hbL q
   ·exact hn q
 ·exact st_ret a1 noN (c.pure y2) ev_none fun v G' s' y z ⟨d,r,e⟩=>by
   subst e
   obtain ⟨_,rfl⟩:=r.inv
   exact k1 G' s' z.step hT
end Mine
end
section
namespace Mine
variable {w:World} {env:Env} {n:Nat} {N:List Addr} {ρ:Rho}
noncomputable def tp (cs:List D) (k:Nat):List (Str×D):=[("cells",.lst cs),("spot",.int (k:Int))]
noncomputable def tapeK (w:World) (a:Addr) (cs:List D) (k:Nat):Kd:=⟨fun v G h=>v=.ref a∧DctAt w G h a (tp cs k),[a],[a],fun hl he x=>⟨x.1,x.2.to hl (he a (.head _))⟩⟩
noncomputable def KDa (w:World) (ds:List (Str×D)) (v:Value) (G:Fz) (s:Shared):Prop:=∃ a,v=.ref a∧DctAt w G s.heap a ds
theorem KDa.step {ds:List (Str×D)}:∀ v G (s:Shared) G' s',KDa w ds v G s→Step G s [] G' s'→KDa w ds v G' s':=fun _ _ _ _ _ ⟨a,e,h⟩ y=>⟨a,e,h.step y⟩
theorem ev_sub_dctA {value slice:PySem.Expr} {pos} {ds:List (Str×D)} {P2 P:D→Prop} (hl:EvK w env n [] ρ value (fun _=>KDa w ds)) (hr:Ev w env n [] ρ slice P2)
  (h:∀ d2,P2 d2→∃ x d,d2=.str x∧look ds x=some d∧P d) (hns:∀ a b c,slice≠.Slice a b none c:=by intro _ _ _ h;cases h):Ev w env n [] ρ (.Subscript value slice pos) P:=
 evk_sub hl hr KDa.step (fun _ _ _ _ _ x _=>x) fun G s v1 v2 i _ ⟨a,e,hd⟩ ⟨d2,r2,p2⟩=>by
  obtain ⟨x,d,rfl,hx,hp⟩:=h _ p2
  subst e
  obtain ⟨_,rfl⟩:=r2.inv
  exact op_item_dct i hd hx hp hns
theorem ev_tape {x:Str} {pos:Pos} {a:Addr} {cs:List D} {k:Nat} (h:(some x,tapeK w a cs k)∈ρ) (hk:env.scope.kind=.function) (hd:(x==("__debug__" : Str))=false:=by decide) (hc:(x==("__classdict__" : Str))=false:=by decide) :
  EvK w env n N ρ (.Name x pos) (fun _=>KDa w (tp cs k)):=(evk_name h hk hd hc).mono fun _ _ _ _ _ ⟨e,h⟩=>⟨a,e,h⟩
theorem st_spot {x:Str} {i e:PySem.Expr} {px p1 pos:Pos} {rest:List Stmt} {A:Around} {G₀ G:Fz} {s₀ s:Shared} {M:List Addr} {Q:Flow→Shared→Prop} {E:Value→Shared→Prop} {a:Addr} {cs:List D} {k k':Nat} {ρ':Rho} (ao:AOK n A) (c:St w env G₀ s₀ M ρ G s)
  (sw:Swap (some x,tapeK w a cs k) (some x,tapeK w a cs k') ρ ρ') (he:Ev w env n [] ρ e (fun d'=>d'=.int (k':Int))) (hi:Ev w env n [] ρ i (fun d'=>d'=.str "spot")) (hk:env.scope.kind=.function)
  (k1:∀ G' s',St w env G₀ s₀ M ρ' G' s'→wpAny (model pw w) A (execs rest env) Q E s') (hd:(x==("__debug__" : Str))=false:=by decide) (hc:(x==("__classdict__" : Str))=false:=by decide) (hs:swapsWith e (some (.Subscript (.Name x px) i p1)) pos.line env=pure false:=by rfl) :
  wpAny (model pw w) A (execs (.Assign [.Subscript (.Name x px) i p1] e pos::rest) env) Q E s:=
 wpAny_execs_cons (wpAny_Assign_Subscript (he A G₀ s₀ M G s _ E ao noN c fun v1 G1 s1 y1 c1 ⟨d1,r1,e1⟩=>evk_name sw.mem hk hd hc A G₀ s₀ M G1 s1 _ E ao noN c1 fun v2 G2 s2 y2 c2 q2=>hi A G₀ s₀ M G2 s2 _ E ao noN c2 fun v3 G3 s3 y3 c3 ⟨d3,r3,e3⟩=>by
  subst e1 e3
  obtain ⟨_,rfl⟩:=r3.inv
  obtain ⟨u,_,hu,hD⟩:=c3.vars _ sw.mem
  have hv2:v2=.ref a:=q2.1
  subst hv2
  obtain ⟨vs,hD,r⟩:=hD
  refine wpAny_setItem_pairs (strKind_is pw w _ _) hD (fun h' hD' hsb=>?_) (by rw [r.length,sizeLine_eq];simp [tp])
  have hst:RepV w.params G3 (stored vs "spot" v1) (tp cs k'):=by
   unfold tp at r ⊢
   cases r with
   | cons h1 r=>cases r with
    | cons h2 r=>
     cases r
     exact .cons h1 (.cons ((r1.mono y2.le).mono y3.le) .nil)
  refine k1 G3 _ (c3.chgAt sw (I:=a) (h':=h') (by show a∈[a];simp) (fun b o hb e=>(hsb.2 b hb).trans e) ?_ rfl rfl (fun v hv=>⟨hv.1,_,hD',hst⟩) _)
  obtain ⟨o,es,ep,h1,_⟩:=hD'
  rw [h1];exact fun h=>nomatch h) hs)
noncomputable def envDr (L:Addr):Env:=callEnvC (lawFd 10 "_law_draw" 272) L 273
noncomputable def natD (d:D):Prop:=∃ z:Nat,d=.int (z:Int)
set_option maxHeartbeats 2000000 in
theorem c_draw {ad:Addr} {cs:List D} {k m:Nat} {G:Fz} {s:Shared} {v:Value} {A:Around} {Q:Value→Shared→Prop} {E:Value→Shared→Prop} (hd:DctAt w G s.heap ad (tp cs k)) (hG:G ad=none) (hcs:∀ d∈cs,natD d) (hlen:cs.length≤1000) (hk:k≤100000) (hm:0 < m) (rv:Rep w.params G v (.int (m:Int))) (i:Inn G s.heap) (b:Bs w G) (a:AOK (n+1) A)
  (k1:∀ v G' s',Step G s [ad] G' s'→DctAt w G' s'.heap ad (tp cs (k+1))→(∃ r:Nat,r < m∧Rep w.params G' v (.int (r:Int)))→Q v s'):wpAny (model pw w) A (call (.ref 273) [.ref ad,v]) Q E s:=by
 have hex:s.heap.get? ad≠none:=by
  obtain ⟨_,⟨o,es,ep,h1,_⟩,_⟩:=hd
  rw [h1];exact fun h=>(nomatch h)
 refine op_fnX (n:=n) (N:=[ad]) (X:=fun _=>False) ff_draw (binds:=[(("tape" : Str),.ref ad),("many",v)]) (ρ₀:=[(some ("tape" : Str),tapeK w ad cs k),(some ("many" : Str),dat w.params (.int (m:Int)))]) rfl (by show [("tape" : Str),"many"].Nodup;decide) (by show ∀ y∈[("tape" : Str),"many"],_;decide +kernel) i b a RX.no (fun ad had=>by rw [List.mem_singleton.mp had];exact hex) ?_ ?_ ?_ ?_ ?_
 ·refine fa_cons ?_ (fa_cons ?_ (fa_nil))
  ·exact ⟨_,.head _,rfl,hd⟩
  ·exact ⟨_,mh1,rv⟩
 ·refine fa_cons ?_ (fa_cons ?_ (fa_nil))
  ·intro ad' had;rw [List.mem_singleton.mp had];exact hex
  ·exact fun _ h=>nomatch h
 ·refine fa_cons ?_ (fa_cons ?_ (fa_nil))
  ·intro ad' had;rw [List.mem_singleton.mp had];exact ⟨by show ad∈[ad];simp,hG,by simp⟩
  ·exact fun _ h=>nomatch h
 ·refine sep_map ?_
  show List.Pairwise SepA [(some ("tape" : Str),[ad],[ad]),(some ("many" : Str),[],[])]
  simp [SepA]
  decide
 intro A s₁ Q' E' a hA c rr kk
 change St w (envDr _) _ _ _ _ _ _ at c
 change wpAny _ _ (execs _ (envDr _)) _ _ _
 generalize s.heap.objs.size=L at c ⊢
 refine st_asg (P:=fun d=>d=.int (k:Int)) a noN c (ev_sub_dctA (ds:=tp cs k) (ev_tape (.head _) rfl) ev_str (by rintro _ rfl;exact ⟨_,_,rfl,rfl,rfl⟩)) (ρ':=fun d=>[(some ("tape" : Str),tapeK w ad cs k),(some ("many" : Str),dat w.params (.int (m:Int))),(some ("spot" : Str),dat w.params d)]) (fun d=>.skip (by decide) (.skip (by decide) .new)) rfl (.inl rfl) ?_
 rintro d G1 s1 rfl c1
 refine st_spot (k':=k+1) (cs:=cs) (k:=k) a c1 .head (ev_add_int (P1:=fun d=>d=.int (k:Int)) (P2:=fun d=>d=.int 1) (ev_name mh2 rfl) ev_int (by exact fun _ _ a b=>⟨_,_,a,b,by simp⟩)) ev_str rfl fun G2 s2 c2=>?_
 have hspot:∀ {pos},Ev w (envDr L) n [] [(some ("tape" : Str),tapeK w ad cs (k+1)),(some ("many" : Str),dat w.params (.int (m:Int))),(some ("spot" : Str),dat w.params (.int (k:Int)))] (.Name "spot" pos) (fun d=>d=.int (k:Int)):=fun {pos}=>ev_name mh2 rfl
 have hcells:∀ {p1 kk p2 p3},Ev w (envDr L) n [] [(some ("tape" : Str),tapeK w ad cs (k+1)),(some ("many" : Str),dat w.params (.int (m:Int))),(some ("spot" : Str),dat w.params (.int (k:Int)))] (.Subscript (.Name "tape" p1) (.Constant (.str "cells") kk p2) p3) (fun d=>d=.lst cs):=fun {p1 kk p2 p3}=>ev_sub_dctA (ds:=tp cs (k+1)) (ev_tape (.head _) rfl) ev_str (by rintro _ rfl;exact ⟨_,_,rfl,rfl,rfl⟩)
 have hmul:∀ {l r pos} {a b:Int},a.natAbs < 2 ^ 63→b.natAbs < 2 ^ 63→Ev w (envDr L) n [] [(some ("tape" : Str),tapeK w ad cs (k+1)),(some ("many" : Str),dat w.params (.int (m:Int))),(some ("spot" : Str),dat w.params (.int (k:Int)))] l (fun d=>d=.int a)→Ev w (envDr L) n [] [(some ("tape" : Str),tapeK w ad cs (k+1)),(some ("many" : Str),dat w.params (.int (m:Int))),(some ("spot" : Str),dat w.params (.int (k:Int)))] r (fun d=>d=.int b)→
   Ev w (envDr L) n [] [(some ("tape" : Str),tapeK w ad cs (k+1)),(some ("many" : Str),dat w.params (.int (m:Int))),(some ("spot" : Str),dat w.params (.int (k:Int)))] (.BinOp l .Mult r pos) (fun d=>d=.int (a * b)):=fun ha hb h1 h2=>ev_mul_int h1 h2 (by exact fun _ _ a b=>⟨_,_,a,b,⟨ha,hb⟩,rfl⟩)
 refine st_ret a noN c2 (K:=fun _=>KD w (fun d=>∃ r:Nat,r < m∧d=.int (r:Int))) (ev_mod_int (P1:=natD) (P2:=fun d=>d=.int (m:Int)) (ev_if (P1:=fun b=>b=decide (k < cs.length)) (tr_lt hspot (ev_lenS (P:=fun d=>d=.int cs.length) (evv_blt rfl rfl rfl rfl rfl rfl) (evs_lst hcells (fun d h=>⟨_,h,(rfl:cs=cs)⟩)) rfl fun l h=>⟨by rw [← h];exact q1 ‹_›,by rw [← h]⟩) (by
    rintro _ _ rfl rfl
    refine ⟨_,_,rfl,rfl,?_⟩
    rw [Bool.eq_iff_iff];simp)) (fun h=>?_) (fun h=>?_)) (ev_name mh1 rfl) (by
    rintro _ _ ⟨z,rfl⟩ rfl
    refine ⟨_,_,rfl,rfl,by omega,z % m,Nat.mod_lt _ hm,?_⟩
    rw [Int.fmod_eq_emod_of_nonneg _ (by exact qd)]
    simp)) fun v G' s' y z ⟨d,r,rr,hr,e⟩=>?_
 ·have hlt:k < cs.length:=by simpa using h.symm
  refine ev_sub_lst hcells hspot (by
   rintro _ _ rfl rfl
   exact ⟨cs,_,cs[k],rfl,rfl,by exact q1 ‹_›,by exact qd,by simp [hlt],hcs _ (List.getElem_mem hlt)⟩)
 ·refine EvK.mono (ev_add_int (P1:=fun d=>d=.int (2 * (k:Int) * k+3 * k)) (P2:=fun d=>d=.int 1) (P:=natD) (ev_add_int (P1:=fun d=>d=.int (2 * (k:Int) * k)) (P2:=fun d=>d=.int (3 * (k:Int))) (hmul ?_ ?_ (hmul ?_ ?_ ev_int hspot) hspot) (hmul ?_ ?_ ev_int hspot) (by exact fun _ _ a b=>⟨_,_,a,b,rfl⟩)) ev_int (by
   rintro _ _ rfl rfl
   exact ⟨_,_,rfl,rfl,2 * k * k+3 * k+1,by simp⟩)) fun _ _ _ _ _ h=>h
  all_goals omega
 ·obtain ⟨_,_,_,hD⟩:=z.vars (some "tape",tapeK w ad cs (k+1)) (.head _)
  refine kk (.ret v) s' (k1 v G' s' z.step hD ⟨rr,hr,by rw [← e];exact r⟩)
end Mine
end
section
namespace Mine
variable {w:World} {env:Env} {n:Nat} {N:List Addr} {ρ:Rho}
noncomputable def tapeN (w:World) (ad:Addr) (cs:List D) (B:Nat):Kd:=
 ⟨fun _ G h=>∃ k,k≤B∧DctAt w G h ad (tp cs k),[ad],[ad],fun hl he x=>x.elim fun k x=>⟨k,x.1,x.2.to hl (he ad (.head _))⟩⟩
noncomputable abbrev T (w:World) (ad:Addr) (cs:List D) (B:Nat) (ρ:Rho):Rho:=(none,tapeN w ad cs B)::ρ
structure Cs (cs:List D):Prop where
 nat:∀ d∈cs,natD d
 len:cs.length≤1000
variable {ad:Addr} {cs:List D} {B B' B'':Nat}
theorem St.more {G₀ G:Fz} {s₀ s:Shared} {M:List Addr} (c:St w env G₀ s₀ M (T w ad cs B ρ) G s) (h:B≤B'):St w env G₀ s₀ M (T w ad cs B' ρ) G s:=
 c.kind (fun _ ⟨k,hk,hd⟩=>⟨k,Nat.le_trans hk h,hd⟩) (fun _ h=>h) fun _ h=>⟨h,h⟩
noncomputable def EvTK (w:World) (env:Env) (n:Nat) (ad:Addr) (cs:List D) (ρ:Rho) (B B':Nat) (e:PySem.Expr) (K:Value→Fz→Shared→Prop):Prop:=
 ∀ (A:Around) (G₀:Fz) (s₀:Shared) (M:List Addr) (G:Fz) (s:Shared) (Q:Value→Shared→Prop) (E:Value→Shared→Prop),AOK n A→St w env G₀ s₀ M (T w ad cs B ρ) G s→
  (∀ v G' s',Step G s [ad] G' s'→St w env G₀ s₀ M (T w ad cs B' ρ) G' s'→K v G' s'→Q v s')→wpAny (model pw w) A (eval e env) Q E s
noncomputable abbrev EvT (w:World) (env:Env) (n:Nat) (ad:Addr) (cs:List D) (ρ:Rho) (B B':Nat) (e:PySem.Expr) (P:D→Prop):Prop:=EvTK w env n ad cs ρ B B' e (KD w P)
noncomputable def TrT (w:World) (env:Env) (n:Nat) (ad:Addr) (cs:List D) (ρ:Rho) (B B':Nat) (e:PySem.Expr) (P:Bool→Prop):Prop:=
 ∀ (A:Around) (G₀:Fz) (s₀:Shared) (M:List Addr) (G:Fz) (s:Shared) (Q:Bool→Shared→Prop) (E:Value→Shared→Prop),AOK n A→St w env G₀ s₀ M (T w ad cs B ρ) G s→
  (∀ b G' s',Step G s [ad] G' s'→St w env G₀ s₀ M (T w ad cs B' ρ) G' s'→P b→Q b s')→wpAny (model pw w) A (isTrue e env (eval e env)) Q E s
noncomputable def TrsT (w:World) (env:Env) (n:Nat) (ad:Addr) (cs:List D) (ρ:Rho) (B B':Nat) (ts:List (Bool×Sem Value)) (P:List D→Prop):Prop:=
 ∀ (A:Around) (G₀:Fz) (s₀:Shared) (M:List Addr) (G:Fz) (s:Shared) (Q:List Value→Shared→Prop) (E:Value→Shared→Prop),AOK n A→St w env G₀ s₀ M (T w ad cs B ρ) G s→
  (∀ vs G' s' ds,Step G s [ad] G' s'→St w env G₀ s₀ M (T w ad cs B' ρ) G' s'→RepL w.params G' vs ds→P ds→vs.length=ts.length→Q vs s')→wpAny (model pw w) A (spliced ts) Q E s
theorem nil_to {N:List Addr}:∀ a∈([]:List Addr),a∈N:=fun _ h=>nomatch h
theorem Step.tp {G G':Fz} {s s':Shared} (y:Step G s [] G' s'):Step G s [ad] G' s':=y.mono nil_to
theorem Step.tt {G G1 G2:Fz} {s s1 s2:Shared} (x:Step G s [ad] G1 s1) (y:Step G1 s1 [ad] G2 s2):Step G s [ad] G2 s2:=x.trans y fun _ h=>.inl h
theorem Step.tn {G G1 G2:Fz} {s s1 s2:Shared} (x:Step G s [ad] G1 s1) (y:Step G1 s1 [] G2 s2):Step G s [ad] G2 s2:=x.trans y fun _ h=>nomatch h
theorem tk_pure {e:PySem.Expr} {K:Shared→Value→Fz→Shared→Prop} {K':Value→Fz→Shared→Prop} (he:EvK w env n [] (T w ad cs B ρ) e K) (h:B≤B') (hk:∀ s v G' s',K s v G' s'→K' v G' s'):EvTK w env n ad cs ρ B B' e K':=
 fun A G₀ s₀ M G s Q E a c k=>he A G₀ s₀ M G s Q E a noN c fun v G' s' y z q=>k v G' s' y.tp (z.more h) (hk _ _ _ _ q)
theorem t_pure {e:PySem.Expr} {P:D→Prop} (he:Ev w env n [] (T w ad cs B ρ) e P) (h:B≤B'):EvT w env n ad cs ρ B B' e P:=tk_pure he h fun _ _ _ _ x=>x
theorem t_mono {e:PySem.Expr} {P P':D→Prop} (he:EvT w env n ad cs ρ B B' e P) (h:∀ d,P d→P' d):EvT w env n ad cs ρ B B' e P':=
 fun A G₀ s₀ M G s Q E a c k=>he A G₀ s₀ M G s Q E a c fun v G' s' y z ⟨d,r,p⟩=>k v G' s' y z ⟨d,r,h d p⟩
theorem t_if {t x r pos} {P1:Bool→Prop} {P:D→Prop} (ht:Tr w env n [] (T w ad cs B ρ) t P1) (h1:P1 true→EvT w env n ad cs ρ B B' x P) (h2:P1 false→EvT w env n ad cs ρ B B' r P):EvT w env n ad cs ρ B B' (.IfExp t x r pos) P:=fun A G₀ s₀ M G s Q E a c k'=>
 PyProof.Rows.IfExp_ (ht A G₀ s₀ M G s _ E a noN c fun b1 G1 s1 y1 z1 p1=>by
  cases b1 with
  | true=>exact h1 p1 A G₀ s₀ M G1 s1 _ E a z1 fun v G' s' y z q=>k' _ _ _ (y1.tp.tt y) z q
  | false=>exact h2 p1 A G₀ s₀ M G1 s1 _ E a z1 fun v G' s' y z q=>k' _ _ _ (y1.tp.tt y) z q)
theorem t_add_int {l r pos} {P1 P2 P:D→Prop} (hl:Ev w env n [] (T w ad cs B ρ) l P1) (hr:EvT w env n ad cs ρ B B' r P2) (h:∀ d1 d2,P1 d1→P2 d2→E2 .int .int d1 d2 fun x y=>P (.int (x+y))):EvT w env n ad cs ρ B B' (.BinOp l .Add r pos) P:=fun A G₀ s₀ M G s Q E a c k'=>
 wpAny_BinOp (hl A G₀ s₀ M G s _ E a noN c fun v1 G1 s1 y1 z1 ⟨d1,r1,p1⟩=>hr A G₀ s₀ M G1 s1 _ E a z1 fun v2 G2 s2 y2 z2 ⟨d2,r2,p2⟩=>by
  obtain ⟨x,y,rfl,rfl,hp⟩:=h _ _ p1 p2
  have y3:=y1.tp.tt y2
  obtain ⟨_,rfl⟩:=r1.inv;obtain ⟨_,rfl⟩:=r2.inv
  refine PyProof.Rows.add_int (k' _ _ _ (y3.tn (Step.tk z2.step.inn _)) (z2.toks _) ⟨_,.int _ _,hp⟩))
theorem t_sub {value slice:PySem.Expr} {pos} {K1 K2 K:Value→Fz→Shared→Prop} (hl:EvK w env n [] (T w ad cs B ρ) value (fun _=>K1)) (hr:EvTK w env n ad cs ρ B B' slice K2)
  (h1:∀ v G s G' s',K1 v G s→Step G s [ad] G' s'→K1 v G' s')
  (hop:∀ G s v1 v2,Inn G s.heap→Bs w G→K1 v1 G s→K2 v2 G s→Op w n [] G s (subscriptTail value slice v1 v2) K) :
  EvTK w env n ad cs ρ B B' (.Subscript value slice pos) K:=fun A G₀ s₀ M G s Q E a c k'=>
 Subscript_ (hl A G₀ s₀ M G s _ E a noN c fun v1 G1 s1 y1 z1 q1=>hr A G₀ s₀ M G1 s1 _ E a z1 fun v2 G2 s2 y2 z2 q2=>
  have y:=y1.tp.tt y2
  hop G2 s2 v1 v2 z2.step.inn z2.HFG (h1 _ _ _ _ _ q1 y2) q2 A _ _ a fun v G3 s3 y3 q=>
   k' v G3 s3 (y.tn y3) (z2.pure y3) q)
theorem KD.stepT {P:D→Prop}:∀ v G (s:Shared) G' s',KD w P v G s→Step G s [ad] G' s'→KD w P v G' s':=fun _ _ _ _ _ ⟨d,r,p⟩ y=>⟨d,r.mono y.le,p⟩
theorem t_sub_lst {value slice:PySem.Expr} {pos} {P1 P2 P:D→Prop} (hl:Ev w env n [] (T w ad cs B ρ) value P1) (hr:EvT w env n ad cs ρ B B' slice P2)
  (h:∀ d1 d2,P1 d1→P2 d2→∃ l i d,d1=.lst l∧d2=.int i∧l.length≤1000000∧0≤i∧l[i.toNat]? = some d∧P d) (hns:∀ a b c,slice≠.Slice a b none c:=by intro _ _ _ h;cases h):EvT w env n ad cs ρ B B' (.Subscript value slice pos) P:=
 t_sub hl hr KD.stepT fun G s v1 v2 i _ ⟨d1,r1,p1⟩ ⟨d2,r2,p2⟩=>by
  obtain ⟨l,j,d,rfl,rfl,hb,h0,hd,hp⟩:=h _ _ p1 p2
  obtain ⟨_,_,_,rfl,hg,r⟩:=r1.inv
  obtain ⟨_,rfl⟩:=r2.inv;exact op_item_list i (i _ _ hg) r h0 hb hd hp hns
theorem t_upto {value e:PySem.Expr} {sp pos} {P1 P:D→Prop} {P2:Int→Prop} (hl:Ev w env n [] (T w ad cs B ρ) value P1) (hr:EvT w env n ad cs ρ B B' e (fun d=>∃ i,d=.int i∧P2 i))
  (h:∀ d1 i,P1 d1→P2 i→E1 .tup d1 fun l=>l.length≤1000000∧P (.tup (pick l none (some i)))):EvT w env n ad cs ρ B B' (.Subscript value (.Slice none (some e) none sp) pos) P:=
 t_sub (K2:=fun v _ s=>KSl (fun o=>o=none) (fun o=>∃ i,o=some i∧P2 i) (fun o=>o=none) v s) hl (fun A G₀ s₀ M G s Q E a c k'=>by
  show wpAny _ _ (do let l←valueOrNone (evalOpt none env);let u←holding [l] (valueOrNone (evalOpt (some e) env));let s←holding [l,u] (valueOrNone (evalOpt none env));newFields "slice" [l,u,s]) _ _ _
  refine wpAny_bind (wpAny_pure (wpAny_bind (wpAny_holding (hr A G₀ s₀ M G s _ E a c fun v2 G2 s2 y2 z2 ⟨d,r,i,hd,p⟩=>wpAny_bind (wpAny_holding (wpAny_pure ?_))))))
  subst hd;obtain ⟨_,rfl⟩:=r.inv
  unfold newFields
  refine wpAny_newObj_type ?_ (by show _≤_;rw [sizeLine_eq];simp)
  exact k' _ _ _ (y2.tn (Step.push (N:=[]) y2.inn _ s2.toks)) (z2.pure (Step.push (N:=[]) y2.inn _ s2.toks))
   ⟨_,_,_,_,_,_,_,rfl,Heap.IsSliceOf.new ..,.none,.int _ _,.none,rfl,⟨i,rfl,p⟩,rfl⟩) KD.stepT fun G s v1 v2 i _ ⟨d1,r1,p1⟩ ⟨sl,vl,vu,vk,o1,o2,o3,e2,hs,i1,i2,i3,q1,q2,q3⟩=>by
  obtain ⟨o,rfl,q⟩:=q2
  obtain ⟨l,rfl,hb,hp⟩:=h _ _ p1 q
  subst e2;subst q1;subst q3
  obtain ⟨a,vs,m,rfl,hg,r⟩:=r1.inv
  ·
   have hlen:=r.arr
   have ho:=i _ _ hg
   refine fun A Q E _ k=>PyProof.Rows.tail_any (T:="tuple") ⟨_,ho,rfl⟩ PyProof.Rows.slot_tuple_getitem.lookup (getItem_tuple_slice ⟨_,ho,rfl,m,rfl⟩ hs i1 i2 i3 (by rw [sizeLine_eq];exact qk ‹_› ‹_›) (fun e=>?_) ?_) subscripted_slice
   ·refine k _ G _ (Step.refl i) ⟨_,.tup hg ?_,hp⟩
    have:=r.pick none (some o)
    rw [e] at this;exact this
   ·have y:=Step.push (N:=[]) i (tupO (pick vs.toList none (some o)).toArray 0) s.toks
    have hn:=fresh_size s.heap
    have ho':({s with heap:=s.heap.push (tupO (pick vs.toList none (some o)).toArray 0)}:Shared).heap.get? s.heap.objs.size=some (tupO (pick vs.toList none (some o)).toArray 0):=Heap.get?_push_size _ rfl
    exact k _ _ _ (y.freeze hn ho') ⟨_,.tup Fz.put_self (by simpa using (r.pick none (some o)).mono (y.le_put ho')),hp⟩
theorem t_eq_int {l r pos} {P1 P2 P:D→Prop} (hl:EvT w env n ad cs ρ B B' l P1) (hr:Ev w env n [] (T w ad cs B' ρ) r P2) (h:∀ d1 d2,P1 d1→P2 d2→E2 .int .int d1 d2 fun x y=>P (.bool (x==y))):EvT w env n ad cs ρ B B' (.Compare l [.Eq] [r] pos) P:=fun A G₀ s₀ M G s Q E a c k'=>
 wpAny_Compare1 (hl A G₀ s₀ M G s _ E a c fun v1 G1 s1 y1 z1 ⟨d1,r1,p1⟩=>hr A G₀ s₀ M G1 s1 _ E a noN z1 fun v2 G2 s2 y2 z2 ⟨d2,r2,p2⟩=>by
  obtain ⟨x,y,rfl,rfl,hp⟩:=h _ _ p1 p2
  obtain ⟨_,rfl⟩:=r1.inv;obtain ⟨_,rfl⟩:=r2.inv
  exact PyProof.Rows.eq_int (k' _ _ _ ((y1.tn y2)) z2 ⟨_,.bool _,hp⟩)) (bim_of (by decide) (by decide))
theorem trT_eq_int {l r pos} {P1 P2:D→Prop} {P:Bool→Prop} (hl:EvT w env n ad cs ρ B B' l P1) (hr:Ev w env n [] (T w ad cs B' ρ) r P2) (h:∀ d1 d2,P1 d1→P2 d2→E2 .int .int d1 d2 fun x y=>P (x==y)):TrT w env n ad cs ρ B B' (.Compare l [.Eq] [r] pos) P:=fun A G₀ s₀ M G s Q E a c k'=>
 wpAny_isTrue_Compare1 (hl A G₀ s₀ M G s _ E a c fun v1 G1 s1 y1 z1 ⟨d1,r1,p1⟩=>hr A G₀ s₀ M G1 s1 _ E a noN z1 fun v2 G2 s2 y2 z2 ⟨d2,r2,p2⟩=>by
  obtain ⟨x,y,rfl,rfl,hp⟩:=h _ _ p1 p2
  obtain ⟨_,rfl⟩:=r1.inv;obtain ⟨_,rfl⟩:=r2.inv
  exact PyProof.Rows.eq_int (wpAny_truthy_bool (k' _ _ _ (y1.tn y2) z2 hp))) (bim_of (by decide) (by decide))
end Mine
end
section
namespace Mine
variable {w:World} {env:Env} {n:Nat} {N:List Addr} {ρ:Rho} {ad:Addr} {cs:List D} {B B' B'':Nat}
theorem trsT_cons {e:PySem.Expr} {ts:List (Bool×Sem Value)} {P1:D→Prop} {P2 P:List D→Prop} (h1:Ev w env n [] (T w ad cs B ρ) e P1) (h2:TrsT w env n ad cs ρ B B' ts P2) (h:∀ d ds,P1 d→P2 ds→P (d::ds)) :
  TrsT w env n ad cs ρ B B' ((false,eval e env)::ts) P:=fun A G₀ s₀ M G s Q E a c k=>
 Calls.spliced_cons (h1 A G₀ s₀ M G s _ E a noN c fun v G1 s1 y1 z1 ⟨d,r,p⟩=>h2 A G₀ s₀ M G1 s1 _ E a z1 fun vs G2 s2 ds y2 z2 r2 p2 hl=>
  k (v::vs) G2 s2 (d::ds) (y1.tp.tt y2) z2 (.cons (r.mono y2.le) r2) (h _ _ p p2) (by simp [hl]))
theorem trsT_here {e:PySem.Expr} {ts:List (Bool×Sem Value)} {P1:D→Prop} {P2 P:List D→Prop} (h1:EvT w env n ad cs ρ B B' e P1) (h2:Trs w env n [] (T w ad cs B' ρ) ts P2) (h:∀ d ds,P1 d→P2 ds→P (d::ds)) :
  TrsT w env n ad cs ρ B B' ((false,eval e env)::ts) P:=fun A G₀ s₀ M G s Q E a c k=>
 Calls.spliced_cons (h1 A G₀ s₀ M G s _ E a c fun v G1 s1 y1 z1 ⟨d,r,p⟩=>h2 A G₀ s₀ M G1 s1 _ E a noN z1 fun vs G2 s2 ds y2 z2 r2 p2 hl=>
  k (v::vs) G2 s2 (d::ds) (y1.tn y2) z2 (.cons (r.mono y2.le) r2) (h _ _ p p2) (by simp [hl]))
theorem t_tuple {elts:List PySem.Expr} {k pos} {P:List D→Prop} {ts:List (Bool×Sem Value)} (h:TrsT w env n ad cs ρ B B' ts P) (ht:backTo pos (starEach elts env)=ts:=by rfl) (hsz:ts.length≤100:=by simp) :
  EvT w env n ad cs ρ B B' (.Tuple elts k pos) (fun d=>∃ l,d=.tup l∧P l):=fun A G₀ s₀ M G s Q E a c k'=>
 Tuple_ (by
  rw [ht]
  exact h A G₀ s₀ M G s _ E a c fun vs G1 s1 ds y1 z1 r p hl=>by
   unfold newTuple
   refine wpAny_newObj_type ?_ (by show vs.toArray.size≤sizeLine;rw [List.size_toArray,hl,sizeLine_eq];exact q1 ‹_›)
   have yp:=Step.push (N:=[]) y1.inn (tupO vs.toArray 0) s1.toks
   have z2:=z1.pure yp
   have ho:({s1 with heap:=s1.heap.push (tupO vs.toArray 0)}:Shared).heap.get? s1.heap.objs.size=some (tupO vs.toArray 0):=Heap.get?_push_size _ rfl
   have y3:=yp.freeze (fresh_size s1.heap) ho
   exact k' _ _ _ (y1.tn y3) (z1.frz z2 (fresh_size _) ho) ⟨_,.tup Fz.put_self (by simpa using r.mono (yp.le_put ho)),ds,rfl,p⟩)
theorem t_call {x:Str} {np pos:Pos} {args:List PySem.Expr} {fa:Addr} {fd:FuncData} {body:List Stmt} {ts:List (Bool×Sem Value)} {PA:List D→Prop} {P:D→Prop} (ff:FnFacts w fa fd body)
  (hf:EvV w env n [] (T w ad cs B ρ) (.Name x np) (.ref fa)) (ha:TrsT w env n ad cs ρ B B' ts PA) (ht:backTo pos (starEach args env)=ts) (hts:∃ e r,ts=(false,e)::r)
  (hop:∀ G s vs ds,Inn G s.heap→Bs w G→RepL w.params G vs ds→PA ds→Op w n [] G s (call (.ref fa) vs) (KD w P)):EvT w env n ad cs ρ B B' (.Call (.Name x np) args [] pos) P:=fun A G₀ s₀ M G s Q E a c k=>by
 refine wpAny_Call_ofName (hf A G₀ s₀ M G s _ E a noN c fun v G1 s1 y1 z1 e=>?_)
 subst e
 obtain ⟨e0,r0,rfl⟩:=hts
 rw [ht]
 refine callWith_function_kw (Calls.evalArgs_plain (ha A G₀ s₀ M G1 s1 _ E a z1 fun vs G2 s2 ds y2 z2 r p hl=>⟨⟨z2.bs.K _ _ ff.at_,rfl⟩,?_⟩))
 have y:=y1.tp.tt y2
 exact hop G2 s2 vs ds z2.step.inn z2.HFG r p A _ _ a fun v G3 s3 y3 q=>k v G3 s3 (y.tn y3) (z2.pure y3) q
noncomputable def OpT (w:World) (n:Nat) (ad:Addr) (cs:List D) (B B':Nat) (fa:Addr) (PA:List D→Prop) (P:List D→D→Prop):Prop:=
 ∀ (G:Fz) (s:Shared) (vs:List Value) (ds:List D) (A:Around) (Q:Value→Shared→Prop) (E:Value→Shared→Prop),AOK n A→Inn G s.heap→Bs w G→RepL w.params G vs ds→PA ds→(tapeN w ad cs B).p .none G s.heap→G ad=none→
  (∀ v G' s',Step G s [ad] G' s'→(tapeN w ad cs B').p .none G' s'.heap→KD w (P ds) v G' s'→Q v s')→wpAny (model pw w) A (call (.ref fa) vs) Q E s
theorem t_callT {x:Str} {np pos:Pos} {args:List PySem.Expr} {fa:Addr} {fd:FuncData} {body:List Stmt} {ts:List (Bool×Sem Value)} {PA:List D→Prop} {P:D→Prop} {PF:List D→D→Prop} (ff:FnFacts w fa fd body)
  (hf:EvV w env n [] (T w ad cs B ρ) (.Name x np) (.ref fa)) (ha:Trs w env n [] (T w ad cs B ρ) ts PA) (ht:backTo pos (starEach args env)=ts) (hts:∃ e r,ts=(false,e)::r)
  (hop:OpT w n ad cs B B' fa PA PF) (hP:∀ ds d,PA ds→PF ds d→P d):EvT w env n ad cs ρ B B' (.Call (.Name x np) args [] pos) P:=fun A G₀ s₀ M G s Q E a c k=>by
 refine wpAny_Call_ofName (hf A G₀ s₀ M G s _ E a noN c fun v G1 s1 y1 z1 e=>?_)
 subst e
 obtain ⟨e0,r0,rfl⟩:=hts
 rw [ht]
 refine callWith_function_kw (Calls.evalArgs_plain (ha A G₀ s₀ M G1 s1 _ E a noN z1 fun vs G2 s2 ds y2 z2 r p hl=>⟨⟨z2.bs.K _ _ ff.at_,rfl⟩,?_⟩))
 refine hop G2 s2 vs ds A _ _ a z2.step.inn z2.HFG r p (z2.vars _ (.head _)) (z2.ows _ (.head _) ad (by show ad∈[ad];simp)).2.1 fun v G3 s3 y3 ht ⟨d,r,q⟩=>?_
 exact k v G3 s3 ((y1.tp.tn y2).tt y3) (z2.rpl y3 (.chg (K':=tapeN w ad cs B') rfl rfl ht Rpl.rest) fun a h=>List.mem_append_left _ h) ⟨d,r,hP _ _ p q⟩
theorem o_draw (hC:Cs cs) (hB:B≤100000):OpT w (n+1) ad cs B (B+1) 273 (fun ds=>∃ m:Nat,0 < m∧ds=[.adr ad,.int m]) (fun ds d=>∀ m:Nat,ds=[.adr ad,.int m]→∃ r:Nat,r < m∧d=.int r):=fun G s vs ds A Q E a i b r ⟨m,hm,e⟩ ⟨k,hk,hd⟩ hG k1=>by
 subst e
 cases r with
 | cons r1 r=>cases r with
  | cons r2 r=>obtain ⟨_,rfl⟩:=r.inv;obtain ⟨_,rfl⟩:=r1.inv;exact c_draw hd hG hC.nat hC.len (by exact q2 ‹_› ‹_›) hm r2 i b a fun v G' s' y hd' ⟨rr,h1,h2⟩=>k1 v G' s' y ⟨k+1,by omega,hd'⟩ ⟨_,h2,fun m' e=>by cases e;exact ⟨rr,h1,rfl⟩⟩
theorem t_draw {e:PySem.Expr} {p1 p2 pos:Pos} {P:D→Prop} (hT:(some ("tape" : Str),dat w.params (.adr ad))∈ρ) (hk:env.scope.kind=.function) (hf:EvV w env (n+1) [] (T w ad cs B ρ) (.Name "_law_draw" p1) (.ref 273)) (hC:Cs cs) (hB:B≤100000)
  (he:Ev w env (n+1) [] (T w ad cs B ρ) e (fun d=>∃ m:Nat,0 < m∧d=.int m∧∀ r:Nat,r < m→P (.int r))) (ht:backTo pos (starEach [.Name "tape" p2,e] env)=[(false,eval (.Name "tape" p2) env),(false,eval e env)]:=by rfl) :
  EvT w env (n+1) ad cs ρ B (B+1) (.Call (.Name "_law_draw" p1) [.Name "tape" p2,e] [] pos) P:=
 t_callT (PA:=fun ds=>∃ m:Nat,(0 < m∧ds=[.adr ad,.int m])∧∀ r:Nat,r < m→P (.int r)) ff_draw hf (trs_cons (P1:=fun d=>d=.adr ad) (P2:=fun ds=>∃ m:Nat,0 < m∧ds=[.int m]∧∀ r:Nat,r < m→P (.int r)) (ev_name (.tail _ hT) hk) (trs_one he fun d ⟨m,h1,h2,h3⟩=>⟨m,h1,by rw [h2],h3⟩) fun d ds h ⟨m,h1,h2,h3⟩=>by subst h;subst h2;exact ⟨m,⟨h1,rfl⟩,h3⟩) ht ⟨_,_,rfl⟩
  (fun G s vs ds A Q E a i b r ⟨m,hm,_⟩=>o_draw hC hB G s vs ds A Q E a i b r ⟨m,hm⟩) fun ds d ⟨m,⟨h1,h2⟩,h3⟩ h=>by
   obtain ⟨r,hr,e⟩:=h m h2
   subst e;exact h3 r hr
theorem op_tp {fa:Addr} {fd:FuncData} {body:List Stmt} (ff:FnFacts w fa fd body) {PA:List D→Prop} {PF:List D→D→Prop} (xs:List Str)
  (hbind:∀ vs,vs.length=xs.length→bindArgs fd ⟨vs,[]⟩=pure (xs.zip vs)) (hnd:xs.Nodup) (hkind:∀ x∈xs,fd.scope.names.lookup x=some .local∨fd.scope.names.lookup x=some .cell) (hl:∀ ds,PA ds→ds.length=xs.length)
  (h:∀ L ds A G s s₁ (Q:Flow→Shared→Prop) (E:Value→Shared→Prop),PA ds→AOK n A→St w (callEnvC fd L fa) G s [ad] (T w ad cs B (rhoOf w.params xs ds)) G s₁→
   (∀ f G' s',Step G s [ad] G' s'→(tapeN w ad cs B').p .none G' s'.heap→KD w (PF ds) (match f with | .ret v=>v | _=>.none) G' s'→Q f s')→wpAny (model pw w) A (execs body (callEnvC fd L fa)) Q E s₁) :
  OpT w (n+1) ad cs B B' fa PA PF:=fun G s vs ds A Q E a i b r p ht hG k1=>by
 have hl:=hl _ p
 have hvl:vs.length=xs.length:=r.length.trans hl
 have hz:(xs.zip vs).map (·.1)=xs:=by rw [List.map_fst_zip];omega
 have hex:s.heap.get? ad≠none:=by
  obtain ⟨_,_,_,⟨o,es,ep,h1,_⟩,_⟩:=ht
  rw [h1];exact fun h=>(nomatch h)
 have hmem:∀ q∈T w ad cs B (rhoOf w.params xs ds),q=(none,tapeN w ad cs B)∨∃ x d v,q=(some x,dat w.params d)∧(x,v)∈xs.zip vs∧Rep w.params G v d:=fun q hq=>(List.mem_cons.mp hq).imp id fun hq=>rhoOf_mem r q hq
 refine op_fn (N:=[ad]) (K:=fun v G' s'=>(tapeN w ad cs B').p .none G' s'.heap∧KD w (PF ds) v G' s') (ρ₀:=T w ad cs B (rhoOf w.params xs ds)) ff (hbind vs hvl) (by rw [hz];exact hnd) (by rw [hz];exact hkind) i b (fun q hq=>?_) (fun q hq=>?_) (fun q hq=>?_) (List.pairwise_cons.mpr ⟨fun q hq=>?_,rhoOf_sep hnd⟩) (fun env A s₁ Q E he a c k=>?_) A Q E a fun v G' s' y ⟨h1,h2⟩=>k1 v G' s' y h1 h2
 ·rcases hmem q hq with rfl | ⟨x,d,v,rfl,h1,h2⟩
  ·exact ht
  ·exact ⟨v,h1,h2⟩
 ·rcases hmem q hq with rfl | ⟨x,d,v,rfl,h1,h2⟩
  ·intro a ha;rw [List.mem_singleton.mp ha];exact hex
  ·exact fun _ h=>nomatch h
 ·rcases hmem q hq with rfl | ⟨x,d,v,rfl,h1,h2⟩
  ·intro a ha;rw [List.mem_singleton.mp ha];exact ⟨by show ad∈[ad];simp,hG,by simp⟩
  ·exact fun _ h=>nomatch h
 ·obtain ⟨x,d,v,rfl,h1,h2⟩:=rhoOf_mem r q hq
  exact ⟨.inl rfl,(fun _ _ h=>nomatch h),fun _ h=>nomatch h⟩
 ·subst he
  exact h _ ds A G s s₁ Q E p a c fun f G' s' y h1 h2=>k f G' s' y ⟨h1,h2⟩
section
variable {A:Around} {G₀ G:Fz} {s₀ s:Shared} {M:List Addr} {Q:Flow→Shared→Prop} {E:Value→Shared→Prop}
theorem st_retT {e:PySem.Expr} {pos:Pos} {rest:List Stmt} {P:D→Prop} (a:AOK n A) (c:St w env G₀ s₀ M (T w ad cs B ρ) G s) (he:EvT w env n ad cs ρ B B' e P)
  (k:∀ v G' s',St w env G₀ s₀ M (T w ad cs B' ρ) G' s'→KD w P v G' s'→Q (.ret v) s'):wpAny (model pw w) A (execs (.Return (some e) pos::rest) env) Q E s:=
 wpAny_execs_cons (wpAny_Return_some (he A G₀ s₀ M G s _ E a c fun v G' s' y z q=>k v G' s' z q))
theorem st_ifT {t:PySem.Expr} {body orelse rest:List Stmt} {pos:Pos} {P:Bool→Prop} (a:AOK n A) (c:St w env G₀ s₀ M (T w ad cs B ρ) G s) (ht:TrT w env n ad cs ρ B B' t P)
  (k:∀ b G' s',P b→St w env G₀ s₀ M (T w ad cs B' ρ) G' s'→wpAny (model pw w) A (execs (if b then body else orelse) env) (fun f s2=>match f with | .next=>wpAny (model pw w) A (execs rest env) Q E s2 | f=>Q f s2) E s') :
  wpAny (model pw w) A (execs (.If t body orelse pos::rest) env) Q E s:=
 wpAny_execs_cons (wpAny_If (ht A G₀ s₀ M G s _ E a c fun b G' s' y z p=>by
  have:=k b G' s' p z
  cases b with
  | true=>exact wpAny_mono this (fun f s2 h=>by cases f<;>exact h) fun _ _ e=>e
  | false=>exact wpAny_mono this (fun f s2 h=>by cases f<;>exact h) fun _ _ e=>e))
theorem st_asgT {x:Str} {px pos:Pos} {e:PySem.Expr} {rest:List Stmt} {P:D→Prop} (a:AOK n A) (c:St w env G₀ s₀ M (T w ad cs B ρ) G s) (he:EvT w env n ad cs ρ B B' e P) {ρ':D→Rho} (hu:∀ d,Upd x (dat w.params d) ρ (ρ' d))
  (hk:env.scope.kind=.function) (hx:env.kindOf x=some .local∨(env.kindOf x=some .cell∧(env.cells.lookup x).isSome=true∧env.func.isSome=true))
  (k:∀ d G' s',P d→St w env G₀ s₀ M (T w ad cs B' (ρ' d)) G' s'→wpAny (model pw w) A (execs rest env) Q E s') (hs:swapsWith e (some (.Name x px)) pos.line env=pure false:=by rfl) :
  wpAny (model pw w) A (execs (.Assign [.Name x px] e pos::rest) env) Q E s:=
 wpAny_execs_cons (wpAny_Assign_Name (he A G₀ s₀ M G s _ E a c fun v G' s' y z ⟨d,r,p⟩=>
  z.store hk hx (.skip (by exact fun h=>nomatch h) (hu d)) r (fun _ h=>nomatch h) (fun _ h=>nomatch h) (fun q _ _=>⟨(fun _ h=>nomatch h),(fun _ _ h=>nomatch h)⟩) fun s2 c2=>k d G' s2 p c2) hs)
end
end Mine
end
section
namespace Mine
variable {w:World} {env:Env} {n:Nat} {N:List Addr} {ρ:Rho} {ad:Addr} {cs:List D} {B B' B'':Nat}
noncomputable def IteT (w:World) (env:Env) (n:Nat) (ad:Addr) (cs:List D) (ρ:Rho) (B B':Nat) (e:PySem.Expr) (P:List D→Prop):Prop:=
 ∀ (A:Around) (G₀:Fz) (s₀:Shared) (M:List Addr) (G:Fz) (s:Shared) (Q:Value→Shared→Prop) (E:Value→Shared→Prop),AOK n A→St w env G₀ s₀ M (T w ad cs B ρ) G s→
  (∀ I ds IF G' s',It w I ds IF→P ds→s.heap.get? I=none→Step G s [ad] G' s'→St w env G₀ s₀ M ((none,IF 0)::T w ad cs B' ρ) G' s'→Q (.ref I) s')→
  wpAny (model pw w) A (eval e env) (fun v s1=>wpAny (model pw w) A (pyIter v) Q E s1) E s
theorem iteT_range {x:Str} {np pos:Pos} {e:PySem.Expr} {P1:D→Prop} {P:List D→Prop} (hf:EvV w env n [] (T w ad cs B ρ) (.Name x np) (.type "range")) (he:EvT w env n ad cs ρ B B' e P1) (ht:backTo pos (starEach [e] env)=[(false,eval e env)])
  (h:∀ d,P1 d→E1 (fun k:Nat=>.int k) d fun k=>k≤1000000∧P ((List.range k).map fun i=>D.int ((i:Nat):Int))):IteT w env n ad cs ρ B B' (.Call (.Name x np) [e] [] pos) P:=fun A G₀ s₀ M G s Q E a c k=>by
 refine wpAny_Call_ofName (hf A G₀ s₀ M G s _ E a noN c fun v G1 s1 y1 z1 e=>?_)
 subst e
 rw [ht]
 refine PySem.callWith_type1 (he A G₀ s₀ M G1 s1 _ E a z1 fun v G2 s2 y2 z2 ⟨d,r,p⟩=>?_)
 obtain ⟨m,rfl,hm,hp⟩:=h d p
 obtain ⟨tkn,rfl⟩:∃ t,v=.int m t:=by cases r;exact ⟨_,rfl⟩
 refine call_range_1 ?_
 have y:=y1.tp.tt y2
 have y3:=Step.push (N:=[]) z2.step.inn {cls:=.type "range",data:=.fields #[.int 0 s2.toks,.int m tkn,.int 1 (s2.toks+1)]} (s2.toks+1+1)
 have z3:=z2.pure y3
 have hsm:Builtin.Range.small 0 (m:Int) 1=true:=small_one (by omega) (by omega) (by omega) (by omega)
 refine wpAny_pyIter_range (IsRange.new ..) hsm ?_
 dsimp only
 generalize hs3:({s2 with heap:=s2.heap.push _,toks:=s2.toks+1+1}:Shared)=s3 at y3 z3 ⊢
 have hh3:s3.heap=s2.heap.push {cls:=.type "range",data:=.fields #[.int 0 s2.toks,.int m tkn,.int 1 (s2.toks+1)]}:=by rw [← hs3]
 rw [← hh3]
 have hf':∀ i (h h':Heap),(IsRangeIter h s3.heap.objs.size (0+(i:Nat) * 1) ((m:Int) - (i:Nat)) 1)→(∀ b∈[s3.heap.objs.size],∀ o,h.get? b=some o→h'.get? b=some o)→IsRangeIter h' s3.heap.objs.size (0+(i:Nat) * 1) ((m:Int) - (i:Nat)) 1:=
  fun _ _ _ st hk=>hk _ (by simp) _ st
 have it:It w s3.heap.objs.size ((List.range m).map fun i=>D.int ((i:Nat):Int)) (itK _ [s3.heap.objs.size] s3.heap.objs.size G2 hf'):=It.of_walks (P:=fun i v=>∃ t,v=.int (0+i * 1) t) (by simp) (fun A hh=>by
   have:=Walks.range (prog:=pw) (w:=w) hh s3.heap.objs.size 0 1 m
   rw [show ((List.range m).map fun i=>D.int ((i:Nat):Int)).length=m by simp];exact this) (fun i v d hv hd=>by
   obtain ⟨t,rfl⟩:=hv
   simp only [List.getElem?_map,Option.map_eq_some_iff] at hd
   obtain ⟨j,hj,rfl⟩:=hd
   have:j=i:=by
    have:=List.getElem?_eq_some_iff.mp hj
    obtain ⟨h1,h2⟩:=this;simp at h2;omega
   subst this
   have e:(0+(j:Int) * 1)=j:=by omega
   rw [e];exact .int _ t) (fun i h hst=>⟨_,hst,.inr (.inr rfl)⟩) hf'
 have hsz:Builtin.Range.rangeSize 0 (m:Int) 1=m:=by rw [rangeSize_one];split<;>omega
 rw [hsz]
 obtain ⟨c2,y4⟩:=z3.iter {cls:=.type "range_iterator",data:=.fields #[rawInt 0,rawInt m,rawInt 1]} rfl (K:=itK _ [s3.heap.objs.size] s3.heap.objs.size G2 hf' 0)
  ⟨by show (s3.heap.push _).get? _=_;rw [Heap.get?_push_size _ rfl];simp,Le.rfl⟩ rfl (fun b hb=>.inl (List.mem_singleton.mp hb)) (by show _∈[_];simp)
 have hs3':({heap:=s3.heap.push {cls:=.type "range_iterator",data:=.fields #[rawInt 0,rawInt m,rawInt 1]},gens:=s2.gens,drawn:=s2.drawn,toks:=s2.toks+1+1,os:=s2.os}:Shared) = {s3 with heap:=s3.heap.push {cls:=.type "range_iterator",data:=.fields #[rawInt 0,rawInt m,rawInt 1]}}:=by rw [← hs3]
 rw [hs3']
 have yy:=(y.trans y3 fun _ h=>nomatch h)
 exact k _ _ _ _ _ it hp (Classical.byContradiction fun q=>yy.dom _ q (fresh_size _)) (yy.trans y4 fun _ h=>nomatch h) c2
theorem st_forT {A:Around} {target iter:PySem.Expr} {body:List Stmt} {pos:Pos} {G₀ G:Fz} {s₀ s:Shared} {M:List Addr} {Pds:List D→Prop} {Q:Flow→Shared→Prop} {E:Value→Shared→Prop} (a:AOK n A) (c:St w env G₀ s₀ M (T w ad cs B ρ) G s)
  (hi:IteT w env n ad cs ρ B B' iter Pds) (ρI:List D→Nat→Rho)
  (start:∀ ds G' s' K,Pds ds→St w env G₀ s₀ M ((none,K)::T w ad cs B' ρ) G' s'→St w env G₀ s₀ M ((none,K)::ρI ds 0) G' s')
  (turn:∀ ds i d v G' s' K,Pds ds→ds[i]? = some d→Rep w.params G' v d→St w env G₀ s₀ M ((none,K)::ρI ds i) G' s'→
   wpAny (model pw w) A (assign target env v) (fun _ s2=>wpAny (model pw w) A (execs body env) (fun f s3=>match f with
    | .next | .cont=>∃ G3,St w env G₀ s₀ M ((none,K)::ρI ds (i+1)) G3 s3
    | .brk=>False
    | .ret v=>Q (.ret v) s3) (EFor w A env E) s2) (EFor w A env E) s')
  (done:∀ ds G' s',Pds ds→St w env G₀ s₀ M (ρI ds ds.length) G' s'→Q .next s')
  (hs:∀ x,foldedSetIterable iter env x=pure x:=by intro _;rfl) :
  wpAny (model pw w) A (exec (.For target iter body [] pos) env) Q E s:=by
 refine wpAny_For (hi A G₀ s₀ M G s _ E a c fun I ds IF G' s' it hp hI y z=>?_) hs
 have hI0:s₀.heap.get? I=none:=Classical.byContradiction fun q=>c.step.dom _ q hI
 refine codeAny_forLoop_any (fun k s2=>∃ i G2,k=ds.length+1 - i∧i≤ds.length∧St w env G₀ s₀ M ((none,IF i)::ρI ds i) G2 s2) ?_ (ds.length+1) ⟨0,G',rfl,Nat.zero_le _,start ds G' s' _ hp z⟩
 rintro k s2 ⟨i,G2,rfl,hle,c2⟩
 have hp2:=c2.vars _ (.head _)
 cases hd:ds[i]? with
 | none=>
  have hlen:i=ds.length:=by have:=List.getElem?_eq_none_iff.mp hd;omega
  subst hlen
  refine it.done A G2 s2 _ _ a.2.2 hp2 fun h' tk hk=>?_
  refine wpAny_execs_nil ?_
  exact done ds G2 _ hp (c2.lose hI0 (by rw [it.ow];simp) hk tk)
 | some d=>
  have hlt:i < ds.length:=(List.getElem?_eq_some_iff.mp hd).1
  refine it.next A i G2 s2 _ _ d a.2.2 hd hp2 fun v h' tk hK hr hx hk=>?_
  have c3:=c2.chg (by rw [it.ow];simp) hk hx ((it.fp (i+1)).trans (it.fp i).symm) ((it.ow (i+1)).trans (it.ow i).symm) (fun _ e _=>by rw [e rfl];exact hK) tk
  refine letGo_plain (it.pl (i+1) _ _ hK) ?_
  refine wpAny_mono (turn ds i d v G2 _ _ hp hd hr c3) (fun _ s3 h3=>wpAny_mono h3 (fun f s4 h4=>?_) fun _ _ e=>e) fun _ _ e=>e
  cases f with
  | next=>obtain ⟨G3,c4⟩:=h4;exact ⟨ds.length+1 - (i+1),by omega,i+1,G3,rfl,hlt,c4⟩
  | cont=>obtain ⟨G3,c4⟩:=h4;exact ⟨ds.length+1 - (i+1),by omega,i+1,G3,rfl,hlt,c4⟩
  | brk=>exact h4.elim
  | ret u=>exact h4
theorem comp_loopT {elt target:PySem.Expr} {gens:List Comprehension} {scope:Scope} {pos:Pos} {dp:Nat} {ifs:List PySem.Expr} {p0:Pos} {emit:Value→Sem Unit} {ce:Env} (he:TurnIs (.ListComp elt gens scope pos) dp ce target ifs p0 emit) {A:Around} {R:Result→Shared→Prop} {G₀:Fz} {s₀:Shared} {M:List Addr} {I Dd:Addr} {ds:List D} {IF:Nat→Kd} (ρc:Nat→Rho) (ρd:Nat→D→Rho)
  (Inv:Nat→List D→Prop) (it:It w I ds IF) (hI:s₀.heap.get? I=none) (a:A.handled=none) (hnum:∀ i acc,Inv i acc→acc.length≤1000000)
  (turn:∀ (E:Value→Shared→Prop) i acc d v G s,ds[i]? = some d→Inv i acc→Rep w.params G v d→St w ce G₀ s₀ M ((none,IF (i+1))::(none,accK w Dd acc)::ρc i) G s→
   wpAny (model pw w) A (assign target ce v) (fun _ s2=>∃ G2,St w ce G₀ s₀ M ((none,IF (i+1))::(none,accK w Dd acc)::ρd i d) G2 s2) E s)
  (test:∀ (E:Value→Shared→Prop) i acc d G s,ds[i]? = some d→Inv i acc→St w ce G₀ s₀ M ((none,IF (i+1))::(none,accK w Dd acc)::ρd i d) G s→
   wpAny (model pw w) A (forIn ifs true fun c r=>if r=true then do let ok←isTrue c ce (eval c ce);pure (ForInStep.yield ok) else pure (ForInStep.yield r))
    (fun b s2=>b=true∧∃ G2,St w ce G₀ s₀ M ((none,IF (i+1))::(none,accK w Dd acc)::ρd i d) G2 s2) E s)
  (emits:∀ (E:Value→Shared→Prop) i acc d G s,ds[i]? = some d→Inv i acc→St w ce G₀ s₀ M ((none,IF (i+1))::(none,accK w Dd acc)::ρd i d) G s→
   wpAny (model pw w) A (emit (.ref Dd)) (fun _ s2=>∃ G2 acc',Inv (i+1) acc'∧St w ce G₀ s₀ M ((none,IF (i+1))::(none,accK w Dd acc')::ρc (i+1)) G2 s2) E s)
  (done:∀ acc G s,Inv ds.length acc→St w ce G₀ s₀ M ((none,accK w Dd acc)::ρc ds.length) G s→R (.ok .next) s)
  (G:Fz) (s:Shared) (acc:List D) (h0:Inv 0 acc) (c:St w ce G₀ s₀ M ((none,IF 0)::(none,accK w Dd acc)::ρc 0) G s):codeAny (model pw w) A (.compLoop (.ListComp elt gens scope pos) dp (.ref I) (.ref Dd) ce) R s:=by
 refine codeAny_loop rfl (fun k s2=>∃ i acc G2,k=ds.length+1 - i∧i≤ds.length∧Inv i acc∧St w ce G₀ s₀ M ((none,IF i)::(none,accK w Dd acc)::ρc i) G2 s2) (fun k s2 hk=>?_) (ds.length+1) ⟨0,acc,G,rfl,Nat.zero_le _,h0,c⟩
 obtain ⟨i,acc,G2,rfl,hle,hinv,c3⟩:=hk
 show wpAny _ A ((compTurn (.ListComp elt gens scope pos) dp (.ref I) (.ref Dd) ce).onRaise (fun x=>do noteFrame x ce;theTreesLotGoes x)) _ _ s2
 refine wpAny_noted ?_
 rw [he]
 have hp2:=c3.vars _ (.head _)
 refine wpAny_bind (wpAny_standAt (wpAny_bind ?_))
 cases hd:ds[i]? with
 | none=>
  have hlen:i=ds.length:=by have:=List.getElem?_eq_none_iff.mp hd;omega
  subst hlen
  refine it.done A G2 s2 _ _ a hp2 fun h' tk hk=>?_
  exact wpAny_pure (done acc G2 _ hinv (c3.lose hI (by rw [it.ow];simp) hk tk))
 | some d=>
  have hlt:i < ds.length:=(List.getElem?_eq_some_iff.mp hd).1
  refine it.next A i G2 s2 _ _ d a hd hp2 fun v h' tk hK hr hx hk=>?_
  have c4:=c3.chg (by rw [it.ow];simp) hk hx ((it.fp (i+1)).trans (it.fp i).symm) ((it.ow (i+1)).trans (it.ow i).symm) (fun _ e _=>by rw [e rfl];exact hK) tk
  refine wpAny_bind (letGo_plain (it.pl (i+1) _ _ hK) ?_)
  refine wpAny_bind (wpAny_mono (turn _ i acc d v G2 _ hd hinv hr c4) (fun _ s5 ⟨G5,c5⟩=>?_) fun _ _ e=>e)
  refine wpAny_bind (wpAny_mono (test _ i acc d G5 s5 hd hinv c5) (fun b s6 ⟨hb,G6,c6⟩=>?_) fun _ _ e=>e)
  have go:∀ acc' G7 s7,Inv (i+1) acc'→St w ce G₀ s₀ M ((none,IF (i+1))::(none,accK w Dd acc')::ρc (i+1)) G7 s7→∃ m,m < ds.length+1 - i∧∃ i acc G2,m=ds.length+1 - i∧i≤ds.length∧Inv i acc∧St w ce G₀ s₀ M ((none,IF i)::(none,accK w Dd acc)::ρc i) G2 s7:=
   fun acc' G7 s7 h1 h2=>⟨ds.length+1 - (i+1),by omega,i+1,acc',G7,rfl,hlt,h1,h2⟩
  subst hb
  exact wpAny_bind (wpAny_mono (emits _ i acc d G6 s6 hd hinv c6) (fun _ s7 ⟨G7,acc',h1,h2⟩=>wpAny_pure ⟨rfl,go acc' G7 s7 h1 h2⟩) fun _ _ e=>e)
theorem comp_coreT {elt target iter:PySem.Expr} {ifs:List PySem.Expr} {gs:List Comprehension} {scope:Scope} {pos ipos:Pos} {cl:List (Str×Addr)} {use:Option (Value→Sem Unit)} {Pds P:List D→Prop} {ρr ρcr:Rho}
  {A:Around} {G₀ G:Fz} {s₀ s:Shared} {M:List Addr} {Q:Value→Shared→Prop} {E:Value→Shared→Prop} (a:AOK n A) (c:St w env G₀ s₀ M (T w ad cs B ρr) G s)
  (hi:Ite w env n [] (T w ad cs B ρr) iter Pds) (hclos:closureFor scope env=pure cl) (hcell:∀ y∈scope.names,y.2≠.cell) (hkind:scope.kind=.function) (hnames:∀ y∈scope.names,y.2=.local→scope.names.lookup y.1=some .local)
  (hcl:∀ y cc,cl.lookup y=some cc→∃ y',env.cells.lookup y'=some cc) (hclp:cl.Pairwise fun x y=>x.2≠y.2)
  (hcap0:Cap [ad] env scope cl ρr ρcr)
  (loop:∀ C Dd I ds IF G1 s1 (R:Result→Shared→Prop),It w I ds IF→Pds ds→s.heap.get? I=none→St w (compEnvC scope cl C env) G s [ad] ((none,IF 0)::(none,accK w Dd [])::T w ad cs B ρcr) G1 s1→
   (∀ acc G2 s2,P acc→St w (compEnvC scope cl C env) G s [ad] ((none,accK w Dd acc)::T w ad cs B' ρcr) G2 s2→R (.ok .next) s2)→
   codeAny (model pw w) A (.compLoop (.ListComp elt (⟨target,iter,ifs,0⟩::gs) scope pos) 0 (.ref I) (.ref Dd) (compEnvC scope cl C env)) R s1)
  (fin:∀ C Dd acc G2 s2,P acc→s.heap.get? Dd=none→s.heap.get? C=none→Step G s [ad] G2 s2→St w env G₀ s₀ M ((none,nsK C)::(none,accK w Dd acc)::T w ad cs B' ρr) G2 s2→compPost (model pw w) A E use Q (.ref Dd) C (.ok .next) s2)
  (hs:∀ x,foldedSetIterable iter env x=pure x:=by intro _;rfl) :
  wpAny (model pw w) A (comprehension (.ListComp elt (⟨target,iter,ifs,0⟩::gs) scope pos) scope env ipos (newList []) false (eval iter env) use) Q E s:=by
 have hcap:Cap [ad] env scope cl (T w ad cs B ρr) (T w ad cs B ρcr):=.own (fun a h=>h) hcap0
 obtain ⟨ρ,hρe⟩:∃ ρ,ρ=T w ad cs B ρr:=⟨_,rfl⟩
 obtain ⟨ρc,hρce⟩:∃ ρ,ρ=T w ad cs B ρcr:=⟨_,rfl⟩
 rw [← hρe] at c hi hcap
 rw [← hρce] at hcap
 refine wpAny_comprehension_free (g:=⟨target,iter,ifs,0⟩) rfl hs hclos hkind hnames (hi A G₀ s₀ M G s _ E a (fun _ h=>nomatch h) c fun I ds IF G1 s1 it hp hI y1 z1=>?_)
 refine wpAny_newObj_type (wpAny_newFunctionEnv hcell (by intro y hy;simp at hy) (fun h2 hns2 hsb2=>?_) hkind) (by show ([]:List Value).toArray.size≤sizeLine;simp)
 dsimp only at hns2 hsb2 ⊢
 have hC:(s1.heap.push {cls:=.type "list",data:=.seq ([]:List Value).toArray}).objs.size=s1.heap.objs.size+1:=Heap.size_push ..
 generalize hCC:(s1.heap.push {cls:=.type "list",data:=.seq ([]:List Value).toArray}).objs.size=C at hns2 hsb2 hC ⊢
 generalize hDD:s1.heap.objs.size=Dd at hC ⊢
 have nD:s1.heap.get? Dd=none:=by rw [← hDD];exact fresh_size _
 have nC:s1.heap.get? C=none:=Heap.get?_none_of_le (by rw [hC,← hDD];omega)
 have hDC:Dd≠C:=by omega
 have old1:∀ b o,s1.heap.get? b=some o→h2.get? b=some o:=fun b o e=>(hsb2.2 b fun q=>by rw [q,nC] at e;cases e).trans (Heap.get?_push_of_some _ (Heap.get?_push_of_some _ e))
 have n0:∀ b,s1.heap.get? b=none→s.heap.get? b=none:=fun b e=>Classical.byContradiction fun q=>y1.dom b q e
 have g0:∀ b,s1.heap.get? b=none→G1 b=none:=fun b e=>by
  cases q:G1 b with
  | none=>rfl
  | some o=>have:=y1.inn _ _ q;rw [e] at this;cases this
 have hDat:h2.get? Dd=some (lstO #[] 0):=(hsb2.2 Dd hDC).trans (Heap.get?_push_of_some _ (by rw [← hDD];exact Heap.get?_push_size _ rfl))
 have ex1:∀ b,s1.heap.get? b≠none→h2.get? b≠none∧b≠C∧b≠Dd:=fun b e=>by
  obtain ⟨o,ho⟩:=Option.ne_none_iff_exists'.mp e
  exact ⟨by rw [old1 _ _ ho];exact (fun h=>(nomatch h)),fun q=>e (by rw [q];exact nC),fun q=>e (by rw [q];exact nD)⟩
 obtain ⟨sep1,sep2⟩:=List.pairwise_cons.mp z1.sep
 have hρc:=hcap.src
 have c2:St w (compEnvC scope cl C env) G s [ad] ((none,IF 0)::(none,accK w Dd [])::ρc) G1 {s1 with heap:=h2,toks:=s1.toks+([]:List (Str×Value)).length}:={
  step:=(y1.mono (N':=[ad]) fun _ h=>nomatch h).trans (M':=[]) ⟨⟨h2,_,rfl⟩,Le.rfl,fun b o e=>old1 _ _ (y1.inn b o e),fun _ _ e=>.inl e,fun b o _ e=>old1 b o e,fun b e=>(ex1 b e).1⟩ fun _ h=>nomatch h
  base:=c.HFG
  fr:=⟨_,hns2⟩
  newL:=n0 _ nC
  GL:=g0 _ nC
  cell:=fun y cc hm=>by
   obtain ⟨y',hy'⟩:=hcl y cc hm
   obtain ⟨⟨v,o,e,r⟩,g⟩:=z1.cell y' cc hy'
   exact ⟨⟨v,o,old1 _ _ e,r⟩,g⟩
  apart:=hclp
  cnew:=fun h=>nomatch h
  vars:=fun q hq=>by
   rcases List.mem_cons.mp hq with e | hq
   ·subst e;exact (IF 0).st Le.rfl (fun b hb o e=>old1 b o e) (z1.vars _ (.head _))
   rcases List.mem_cons.mp hq with e | hq
   ·subst e;exact ⟨#[],0,hDat,.nil⟩
   cases hcap.mem q hq with
   | @fact K h=>exact K.st Le.rfl (fun b hb o e=>old1 b o e) (z1.vars _ (.tail _ h))
   | @own K h _=>exact K.st Le.rfl (fun b hb o e=>old1 b o e) (z1.vars _ (.tail _ h))
   | @var y K h h1 h2' h3=>
    obtain ⟨v,hv,hpv⟩:=z1.vars _ (.tail _ h)
    refine ⟨v,?_,K.st Le.rfl (fun b hb o e=>old1 b o e) hpv⟩
    rcases hv with ⟨hl,_⟩ | ⟨_,cc,hcc,o,e,r⟩
    ·rcases h1 with h1 | h1<;>(rw [h1] at hl;cases hl)
    ·exact .inr ⟨h3,cc,h2'.trans hcc,o,old1 _ _ e,r⟩
  fps:=fun q hq b hb=>by
   have fin:(s1.heap.get? b≠none∧b≠env.locals∧∀ y c,env.cells.lookup y=some c→b≠c)→h2.get? b≠none∧b≠C∧∀ y c,cl.lookup y=some c→b≠c:=fun ⟨h1,h2,h3⟩=>
    ⟨(ex1 b h1).1,(ex1 b h1).2.1,fun y cc hm=>by obtain ⟨y',hy'⟩:=hcl y cc hm;exact h3 y' cc hy'⟩
   rcases List.mem_cons.mp hq with e | hq
   ·subst e;exact fin (z1.fps _ (.head _) b hb)
   rcases List.mem_cons.mp hq with e | hq
   ·subst e
    have:b=Dd:=List.mem_singleton.mp hb
    subst this
    refine ⟨by show h2.get? b≠none;rw [hDat];exact (fun h=>(nomatch h)),hDC,fun y cc hm e=>?_⟩
    obtain ⟨y',hy'⟩:=hcl y cc hm
    exact z1.frC hy' (e▸nD)
   obtain ⟨q0,hq0,_,e1,_⟩:=hρc q hq
   rw [e1] at hb
   exact fin (z1.fps _ (.tail _ hq0) b hb)
  ows:=fun q hq b hb=>by
   rcases List.mem_cons.mp hq with e | hq
   ·subst e
    obtain ⟨h1,h2,_⟩:=z1.ows _ (.head _) b hb
    rw [it.ow] at hb
    have:=List.mem_singleton.mp hb
    subst this
    exact ⟨h1,h2,.inr hI⟩
   rcases List.mem_cons.mp hq with e | hq
   ·subst e
    have:b=Dd:=List.mem_singleton.mp hb
    subst this
    exact ⟨hb,g0 _ nD,.inr (n0 _ nD)⟩
   cases hcap.mem q hq with
   | fact h=>exact nomatch hb
   | own h h2=>
    obtain ⟨h3,h4,_⟩:=z1.ows _ (.tail _ h) b hb
    exact ⟨h3,h4,.inl (h2 b hb)⟩
   | var h _ _ _=>exact nomatch hb
  sep:=by
   have sD:∀ K:Kd,(∀ b∈K.fp,s1.heap.get? b≠none)→Dd∉K.fp:=fun K h hm=>h _ hm nD
   refine List.pairwise_cons.mpr ⟨fun q hq=>?_,List.pairwise_cons.mpr ⟨fun q hq=>?_,hcap.sep sep2⟩⟩
   ·rcases List.mem_cons.mp hq with e | hq
    ·subst e
     refine ⟨.inl rfl,fun b hb hm=>?_,fun b hb=>?_⟩
     ·have:b=Dd:=List.mem_singleton.mp hm
      subst this
      exact (z1.fps _ (.head _) _ (z1.ows _ (.head _) _ hb).1).1 nD
     ·have:b=Dd:=List.mem_singleton.mp hb
      subst this
      exact sD _ fun b hb=>(z1.fps _ (.head _) b hb).1
    ·obtain ⟨q0,hq0,_,e1,e2⟩:=hρc q hq
     refine ⟨.inl rfl,fun b hb hm=>?_,fun b hb=>?_⟩
     ·rw [e1] at hm;exact (sep1 q0 hq0).2.1 b hb hm
     ·exact (sep1 q0 hq0).2.2 b (e2 b hb)
   ·obtain ⟨q0,hq0,_,e1,e2⟩:=hρc q hq
    refine ⟨.inl rfl,fun b hb hm=>?_,fun b hb hm=>?_⟩
    ·have:b=Dd:=List.mem_singleton.mp hb
     subst this
     rw [e1] at hm
     exact sD _ (fun b hb=>(z1.fps _ (.tail _ hq0) b hb).1) hm
    ·have:b=Dd:=List.mem_singleton.mp hm
     subst this
     exact (z1.fps _ (.tail _ hq0) b (z1.ows _ (.tail _ hq0) b (e2 b hb)).1).1 nD}
 have key:=loop C Dd I ds IF G1 _ (compPost (model pw w) A E use Q (.ref Dd) C) it hp hI (hρce▸c2) fun acc G2 s2 hP c3=>by
  have z2:St w env G₀ s₀ M (T w ad cs B' ρr) G2 s2:=by
   have cz:St w env G₀ s₀ M (T w ad cs B ρr) G s:=hρe▸c
   exact cz.rpl c3.step (.chg (K':=tapeN w ad cs B') rfl rfl (c3.vars (none,tapeN w ad cs B') (by simp)) Rpl.rest) fun a h=>List.mem_append_left _ h
  have hfp:∀ q∈T w ad cs B' ρr,∃ q0∈ρ,q0.2.fp=q.2.fp:=fun q hq=>(List.mem_cons.mp hq).elim (fun e=>⟨_,by rw [hρe];exact .head _,by rw [e];rfl⟩) fun h=>⟨q,by rw [hρe];exact .tail _ h,rfl⟩
  have nsC:∃ m,s2.heap.Ns C m:=c3.fr
  obtain ⟨gC1,gC2⟩:s.heap.get? C=none∧G2 C=none:=⟨c3.newL,c3.GL⟩
  obtain ⟨oD1,oD2,oD3⟩:=c3.ows (none,accK w Dd acc) (.head _) Dd (by show Dd∈[Dd];simp)
  have oD4:s.heap.get? Dd=none:=n0 _ nD
  have new0:∀ b,s.heap.get? b=none→s₀.heap.get? b=none:=fun b e=>Classical.byContradiction fun q=>c.step.dom b q e
  have apartC:∀ b,s.heap.get? b=none→(∀ q∈T w ad cs B' ρr,b∉q.2.fp)∧b≠env.locals∧∀ y cc,env.cells.lookup y=some cc→b≠cc:=fun b e=>
   ⟨fun q hq hm=>let ⟨q0,h0,e0⟩:=hfp q hq;(c.fps q0 h0 b (e0▸hm)).1 e,fun h=>c.frL (h▸e),fun y cc hm h=>c.frC hm (h▸e)⟩
  have z3:St w env G₀ s₀ M ((none,accK w Dd acc)::T w ad cs B' ρr) G2 s2:=by
   refine z2.addF (c3.vars _ (.head _)) (fun b hb=>?_) (fun b hb=>?_) (fun q hq=>⟨fun b hb=>?_,fun b hb hm=>?_⟩)
   ·have:=List.mem_singleton.mp hb;subst this
    exact ⟨(c3.fps _ (.head _) _ oD1).1,(apartC _ oD4).2⟩
   ·have:=List.mem_singleton.mp hb;subst this
    exact ⟨hb,oD2,.inr (new0 _ oD4)⟩
   ·have:=List.mem_singleton.mp hb;subst this
    exact (apartC _ oD4).1 q hq
   ·have:=List.mem_singleton.mp hm;subst this
    exact (apartC _ oD4).1 q hq (z2.ows q hq _ hb).1
  have z4:St w env G₀ s₀ M ((none,nsK C)::(none,accK w Dd acc)::T w ad cs B' ρr) G2 s2:=by
   refine z3.addF nsC (fun b hb=>?_) (fun b hb=>?_) (fun q hq=>⟨fun b hb hm=>?_,fun b hb hm=>?_⟩)
   ·have:=List.mem_singleton.mp hb;subst this
    exact ⟨c3.frL,(apartC _ gC1).2⟩
   ·have:=List.mem_singleton.mp hb;subst this
    exact ⟨hb,gC2,.inr (new0 _ gC1)⟩
   ·have:=List.mem_singleton.mp hb;subst this
    rcases List.mem_cons.mp hq with e | hq
    ·subst e;exact hDC (List.mem_singleton.mp hm).symm
    ·exact (apartC _ gC1).1 q hq hm
   ·have:=List.mem_singleton.mp hm;subst this
    rcases List.mem_cons.mp hq with e | hq
    ·subst e;exact hDC (List.mem_singleton.mp hb).symm
    ·exact (apartC _ gC1).1 q hq (z2.ows q hq _ hb).1
  exact fin C Dd acc G2 s2 hP oD4 gC1 c3.step z4
 exact codeAny_compStart_list key (it.self A G1 _ _ _ a.2.2 (c2.vars _ (.head _)) key)
end Mine
end
section
namespace Mine
variable {w:World} {env:Env} {n:Nat} {N:List Addr} {ρ:Rho} {ad:Addr} {cs:List D} {B B' B'':Nat}
theorem Bs.at {G:Fz} {s:Shared} (b:Bs w G) (i:Inn G s.heap) {a:Addr} {o:Obj} (h:(KK w.params).lookup a=some o):G a=some o:=by
 have h1:=(b _ i).K _ _ h
 cases q:G a with
 | some o'=>have:=i _ _ q;rw [h1] at this;cases this;rfl
 | none=>
  have i':Inn G {s.heap with objs:=s.heap.objs.setIfInBounds a {cls:=.type "list",data:=.freed}}:=fun c oc hc=>by
   have hne:a≠c:=fun e=>by subst e;rw [q] at hc;cases hc
   have:=i c oc hc
   unfold Heap.get? at this ⊢
   rw [Array.getElem?_setIfInBounds_ne hne]
   exact this
  have h2:=(b _ i').K _ _ h
  have hlt:a < s.heap.objs.size:=Classical.byContradiction fun hn=>by rw [Heap.get?_none_of_le (Nat.le_of_not_lt hn)] at h1;cases h1
  unfold Heap.get? at h2
  dsimp only at h2
  rw [Array.getElem?_setIfInBounds,if_pos rfl,if_pos hlt] at h2
  cases h2
noncomputable def poolD:D:=.tup [.tup [.str "A",.str "B"],.tup [.str "C",.str "D"],.tup [.str "F",.str "G"],.tup [.str "P",.str "Q"]]
theorem pool_rep {G:Fz} {s:Shared} (b:Bs w G) (i:Inn G s.heap):Rep w.params G (.ref 266) poolD:=
 .tup (b.at i (a:=266) rfl) (.cons (.tup (b.at i (a:=262) rfl) (.cons (.str _ _) (.cons (.str _ _) .nil))) (.cons (.tup (b.at i (a:=263) rfl) (.cons (.str _ _) (.cons (.str _ _) .nil))) (.cons (.tup (b.at i (a:=264) rfl) (.cons (.str _ _) (.cons (.str _ _) .nil))) (.cons (.tup (b.at i (a:=265) rfl) (.cons (.str _ _) (.cons (.str _ _) .nil))) .nil))))
theorem ev_pool {pos:Pos} (hf:EvV w env n [] ρ (.Name "_law_pool" pos) (.ref 266)):Ev w env n [] ρ (.Name "_law_pool" pos) (fun d=>d=poolD):=fun A G₀ s₀ M G s Q E a b c k=>
 hf A G₀ s₀ M G s Q E a b c fun v G' s' y z e=>k v G' s' y z ⟨_,e▸pool_rep z.HFG z.step.inn,rfl⟩
noncomputable def poolN:Nat→Str×Str
 | 0=>("A","B") | 1=>("C","D") | 2=>("F","G") | _=>("P","Q")
noncomputable def fN (x:Str) (k j:Nat):Str:=x++(toString (k:Int):Str)++(toString (j:Int):Str)
noncomputable def dcK (k j:Nat) (d:Dc):Prop:=d.spot=100+10 * (k:Int)+j∧d.fields=if d.disj then [fN "f" k j,fN "g" k j] else [fN "f" k j]
structure IsSig (k:Nat) (t:Sg):Prop where
 spot:t.spot=10 * (k:Int)+10
 names:t.names=[(poolN k).1]∨t.names=[(poolN k).1,(poolN k).2]
 abs:t.abs=false
 par:t.parent∈(["","A","C"]:List Str).take (if k < 3 then k+1 else 1)
 sups:if k < 3 then t.sups=[] else t.sups∈([["A"],["C"],["F","A"],["C","F"]]:List (List Str))
 decls:t.decls.length≤2∧∀ j d,t.decls[j]? = some d→dcK k j d
end Mine
end
section
namespace Mine
variable {w:World} {env:Env} {n:Nat} {N:List Addr} {ρ:Rho} {ad:Addr} {cs:List D} {B B' B'':Nat}
noncomputable def ownE (w:World) (a:Addr) (P:List D→Prop):Kd:=
 ⟨fun v G h=>v=.ref a∧∃ l vs n,P l∧h.get? a=some (lstO vs n)∧RepL w.params G vs.toList l,[a],[a],fun hl he x=>by obtain ⟨e,l,vs,n,p,x,y⟩:=x;exact ⟨e,l,vs,n,p,he a (.head _) _ x,y.mono hl⟩⟩
theorem St.shut {G₀ G:Fz} {s₀ s:Shared} {M:List Addr} {ρ':Rho} {x:Option Str} {a:Addr} {l:List D} {P:List D→Prop} (c:St w env G₀ s₀ M ρ G s) (sw:Swap (x,own w.params a l) (x,ownE w a P) ρ ρ') (h:P l):St w env G₀ s₀ M ρ' G s:=by
 obtain ⟨⟨r,h1,h2⟩,hm⟩:=And.intro sw.perm sw.mem
 refine ((c.perm h1).kind (K':=ownE w a P) (fun v ⟨e,vs,n,x,y⟩=>⟨e,l,vs,n,h,x,y⟩) (fun _ h=>h) fun _ h=>⟨h,h⟩).perm h2.symm
theorem St.openE {G₀ G:Fz} {s₀ s:Shared} {M:List Addr} {ρ':List D→Rho} {x:Str} {a:Addr} {P:List D→Prop} (c:St w env G₀ s₀ M ρ G s) (sw:∀ l,Swap (some x,ownE w a P) (some x,own w.params a l) ρ (ρ' l)):∃ l,P l∧St w env G₀ s₀ M (ρ' l) G s:=by
 obtain ⟨v,hv,e,l,vs,n,p,h1,h2⟩:=c.vars _ (sw []).mem
 obtain ⟨r,g1,g2⟩:=(sw l).perm
 exact ⟨l,p,((c.perm g1).kind (K':=own w.params a l) (fun v' ⟨e',_⟩=>⟨e',vs,n,h1,h2⟩) (fun _ h=>h) fun _ h=>⟨h,h⟩).perm g2.symm⟩
noncomputable def poolL:List D:=[.tup [.str "A",.str "B"],.tup [.str "C",.str "D"],.tup [.str "F",.str "G"],.tup [.str "P",.str "Q"]]
theorem poolL_at (k:Nat) (h:k < 4):idx (k:Int) poolL.length=some k∧poolL[k]? = some (.tup ([(poolN k).1,(poolN k).2].map .str)):=by
 rcases k with _ | _ | _ | _ | k
 ·exact ⟨rfl,rfl⟩
 ·exact ⟨rfl,rfl⟩
 ·exact ⟨rfl,rfl⟩
 ·exact ⟨rfl,rfl⟩
 ·exact absurd h (Nat.not_lt.mpr (Nat.le_add_left 4 k))
theorem poolD_eq:poolD=.tup poolL:=rfl
noncomputable def ml (env:Env) (es:List PySem.Expr):List (Bool×Sem Value):=es.map fun e=>(false,eval e env)
theorem mq_nil:Trs w env n N ρ (ml env []) (fun l=>l=[]):=trs_nil rfl
theorem mq {e:PySem.Expr} {es:List PySem.Expr} {d:D} {ds:List D} (h1:Ev w env n N ρ e (fun d'=>d'=d)) (h2:Trs w env n N ρ (ml env es) (fun l=>l=ds)):Trs w env n N ρ (ml env (e::es)) (fun l=>l=d::ds):=trs_eq h1 h2
theorem ev_tupQ {elts:List PySem.Expr} {k pos} {ds:List D} (h:Trs w env n N ρ (ml env elts) (fun l=>l=ds)) (ht:backTo pos (starEach elts env)=ml env elts:=by rfl) (hsz:elts.length≤100:=by simp) :
  Ev w env n N ρ (.Tuple elts k pos) (fun d=>d=.tup ds):=(ev_tuple h ht (by unfold ml;simpa using hsz)).mono fun _ _ _ _ _ ⟨d,r,l,e,p⟩=>⟨d,r,by rw [e,p]⟩
theorem ev_listQ {elts:List PySem.Expr} {pos} {ds:List D} (h:Trs w env n N ρ (ml env elts) (fun l=>l=ds)) (ht:backTo pos (starEach elts env)=ml env elts:=by rfl) (hsz:elts.length≤100:=by simp) :
  Ev w env n N ρ (.List elts pos) (fun d=>d=.lst ds):=(EvL.ev (evl_list h ht (by unfold ml;simpa using hsz))).mono fun _ _ _ _ _ ⟨d,r,l,e,p⟩=>⟨d,r,by rw [e,p]⟩
noncomputable def supL:List (List Str):=[[],[],[],["A"],["C"],["F","A"],["C","F"]]
noncomputable abbrev supD:List D:=[.tup [],.tup [],.tup [],.tup [.str "A"],.tup [.str "C"],.tup [.str "F",.str "A"],.tup [.str "C",.str "F"]]
theorem supL_at {r:Nat} (h:r < 7):supD[r]? = some (.tup ((supL.getD r []).map .str)):=by
 rcases r with _ | _ | _ | _ | _ | _ | _ | r
 iterate 7 rfl
 exact absurd h (Nat.not_lt.mpr (Nat.le_add_left _ _))
noncomputable def supOk (k:Nat) (l:List Str):Prop:=if k < 3 then l=[] else l∈([["A"],["C"],["F","A"],["C","F"]]:List (List Str))
theorem supL_lo {k:Nat} (h:k < 3):supOk k (supL.getD k []):=
 (by decide +kernel:∀ k,k < 3→(if k < 3 then supL.getD k []=[] else supL.getD k []∈([["A"],["C"],["F","A"],["C","F"]]:List (List Str)))) k h
theorem supL_hi {k r:Nat} (h:¬ k < 3) (hr:r < 4):supOk k (supL.getD (3+r) []):=by
 unfold supOk
 rw [if_neg h]
 exact (by decide +kernel:∀ r,r < 4→supL.getD (3+r) []∈([["A"],["C"],["F","A"],["C","F"]]:List (List Str))) r hr
theorem tS_len (k:Nat) (h:k < 4):((toString (k:Int):Str)).length=1:=
 (by decide +kernel:∀ k,k < 4→((toString ((k:Nat):Int):Str)).length=1) k h
theorem dc_snoc {k i:Nat} {dl:List Dc} {x:Dc} (h:dl.length=i) (hd:∀ j d,dl[j]? = some d→dcK k j d) (hx:dcK k i x):∀ j d,(dl++[x])[j]? = some d→dcK k j d:=fun j d e=>by
 rw [List.getElem?_append] at e
 split at e
 ·exact hd j d e
 ·have hj:j - dl.length=0:=by
   have:=(List.getElem?_eq_some_iff.mp e).1
   simp at this;exact ‹_›
  rw [hj] at e
  cases e
  have:j=i:=by omega
  rw [this];exact hx
noncomputable def envSg (L:Addr):Env:=callEnvC (lawFd 11 "_law_sig" 279) L 280
noncomputable abbrev sgR (w:World) (ad:Addr) (k:Nat) (dn dp ds:D) (q:Option Str×Kd):Rho:=[(some ("tape" : Str),dat w.params (.adr ad)),(some ("k" : Str),dat w.params (.int (k:Int))),(some ("names" : Str),dat w.params dn),(some ("parent" : Str),dat w.params dp),(some ("supers" : Str),dat w.params ds),q]
set_option maxHeartbeats 400000 in
theorem o_sig (hC:Cs cs) (k:Nat) (hk:k < 4) (hB:B≤1000):OpT w (n+2) ad cs B (B+6) 280 (fun ds=>ds=[.adr ad,.int (k:Int)]) (fun _ d=>∃ t,IsSig k t∧d=encS t):=by
 refine op_tp ff_sig ["tape","k"] (bind2 fun _ _=>rfl) (by decide) (by decide +kernel) (fun ds e=>by subst e;rfl) fun L ds A G s s₁ Q E e a c kk=>?_
 subst e
 change St w (envSg L) _ _ _ _ _ _ at c
 change wpAny _ _ (execs _ (envSg L)) _ _ _
 have hdr:∀ {ρ:Rho} {pos},EvV w (envSg L) (n+1) [] ρ (.Name "_law_draw" pos) (.ref 273):=fun {ρ pos}=>evv_glob rfl (by rfl) rfl rfl
 refine st_asgT (B':=B+1) (P:=fun d=>d=.tup ([(poolN k).1].map .str)∨d=.tup ([(poolN k).1,(poolN k).2].map .str)) a c
  (t_upto (P1:=fun d=>d=.tup ([(poolN k).1,(poolN k).2].map .str)) (P2:=fun i=>i=1∨i=2)
   (ev_sub_tup (ev_pool (evv_glob rfl (by rfl) rfl rfl)) (ev_name (d:=.int (k:Int)) mh2 rfl) (by
    rintro _ _ h1 h2
    exact ⟨poolL,k,k,_,h1.trans poolD_eq,h2,by simp [poolL],(poolL_at k hk).1,(poolL_at k hk).2,rfl⟩))
   (t_add_int (P1:=fun d=>d=.int 1) (P2:=fun d=>d=.int 0∨d=.int 1) ev_int (t_draw (.head _) rfl hdr hC (by exact q1 ‹_›) (ev_int.mono fun _ _ _ _ _ ⟨d,r,e⟩=>⟨d,r,2,by decide,e,fun r hr=>by
    match r,hr with
    | 0,_=>exact .inl rfl
    | 1,_=>exact .inr rfl⟩)) (by rintro _ _ rfl (rfl | rfl)<;>exact ⟨_,_,rfl,rfl,_,rfl,by simp⟩))
   (by
    rintro _ _ rfl (rfl | rfl)
    ·exact ⟨_,rfl,by simp,.inl rfl⟩
    ·exact ⟨_,rfl,by simp,.inr rfl⟩))
  (ρ':=fun d=>[(some ("tape" : Str),dat w.params (.adr ad)),(some ("k" : Str),dat w.params (.int (k:Int))),(some ("names" : Str),dat w.params d)]) (fun d=>.skip (by decide) (.skip (by decide) .new)) rfl (.inl rfl) fun dn G1 s1 hn c1=>?_
 refine st_asgT (B':=B+2) (P:=fun d=>∃ p∈(["","A","C"]:List Str).take (if k < 3 then k+1 else 1),d=.str p) a c1
  (t_if (P1:=fun b=>b=decide (k < 3)) (tr_lt (ev_name (d:=.int (k:Int)) mh2 rfl) ev_int (by rintro _ _ rfl rfl;refine ⟨_,_,rfl,rfl,?_⟩;rw [Bool.eq_iff_iff];simp;exact qg))
   (fun h=>t_sub_lst (ev_listQ (mq ev_str (mq ev_str (mq ev_str mq_nil)))) (t_draw (P:=fun d=>∃ r:Nat,r < k+1∧d=.int r) (.head _) rfl hdr hC (by exact q7 ‹_›) (ev_add_int (P1:=fun d=>d=.int (k:Int)) (P2:=fun d=>d=.int 1) (ev_name mh2 rfl) ev_int (by
     rintro _ _ rfl rfl
     exact ⟨_,_,rfl,rfl,k+1,by omega,by simp,fun r hr=>⟨r,hr,rfl⟩⟩))) (by
     rintro _ _ rfl ⟨r,hr,rfl⟩
     have h3:k < 3:=by simpa using h.symm
     have hr3:r < 3:=by exact q2 ‹_› ‹_›
     refine ⟨_,_,.str ((["","A","C"]:List Str)[r]'(by simpa using hr3)),rfl,rfl,by simp,by exact qd,?_,_,?_,rfl⟩
     ·match r,hr3 with
      | 0,_=>rfl
      | 1,_=>rfl
      | 2,_=>rfl
     ·rw [if_pos h3]
      rw [List.mem_take_iff_getElem]
      exact ⟨r,by show r < min (k+1) 3;omega,rfl⟩))
   (fun h=>t_pure (ev_str.mono fun _ _ _ _ _ ⟨d,r,e⟩=>⟨d,r,"",(by split<;>exact List.Mem.head _),e⟩) (by exact q9)))
  (ρ':=fun d=>[(some ("tape" : Str),dat w.params (.adr ad)),(some ("k" : Str),dat w.params (.int (k:Int))),(some ("names" : Str),dat w.params dn),(some ("parent" : Str),dat w.params d)]) (fun d=>.skip (by decide) (.skip (by decide) (.skip (by decide) .new))) rfl (.inl rfl) fun dp G2 s2 hp' c2=>?_
 with_reducible refine st_asgT (B':=B+3) (P:=fun d=>∃ l,supOk k l∧d=.tup (l.map .str)) (ρ':=fun d=>[(some ("tape" : Str),dat w.params (.adr ad)),(some ("k" : Str),dat w.params (.int (k:Int))),(some ("names" : Str),dat w.params dn),(some ("parent" : Str),dat w.params dp),(some ("supers" : Str),dat w.params d)]) a c2 ?_ ?_ ?_ ?_ ?_ (hs:=?_)
 rotate_left
 ·exact fun d=>.skip (by decide) (.skip (by decide) (.skip (by decide) (.skip (by decide) .new)))
 ·rfl
 ·exact .inl rfl
 rotate_left
 ·rfl
 ·with_reducible refine t_sub_lst (P1:=fun d=>d=.lst supD) (P2:=fun d=>∃ r:Nat,r < 7∧supOk k (supL.getD r [])∧d=.int r) ?_ ?_ ?_ (hns:=?_)
  ·with_reducible refine ev_listQ ?_ (ht:=?_) (hsz:=?_)
   rotate_left
   ·rfl
   ·simp
   ·with_reducible refine mq ?_ (mq ?_ (mq ?_ (mq ?_ (mq ?_ (mq ?_ (mq ?_ mq_nil))))))
    ·exact ev_tupQ mq_nil
    ·exact ev_tupQ mq_nil
    ·exact ev_tupQ mq_nil
    ·exact ev_tupQ (mq ev_str mq_nil)
    ·exact ev_tupQ (mq ev_str mq_nil)
    ·exact ev_tupQ (mq ev_str (mq ev_str mq_nil))
    ·exact ev_tupQ (mq ev_str (mq ev_str mq_nil))
  ·refine (t_if (P:=fun d=>∃ r:Nat,r < 7∧supOk k (supL.getD r [])∧d=.int r) (P1:=fun b=>b=decide (k < 3)) (tr_lt (ev_name (d:=.int (k:Int)) mh2 rfl) ev_int (by rintro _ _ rfl rfl;refine ⟨_,_,rfl,rfl,?_⟩;rw [Bool.eq_iff_iff];simp;exact qg))
    (fun h=>t_pure ((ev_name (d:=.int (k:Int)) mh2 rfl).mono fun _ _ _ _ _ ⟨d,r,e⟩=>⟨d,r,k,by exact q1 ‹_›,supL_lo (by simpa using h.symm),e⟩) (by exact q9))
    (fun h=>t_add_int (P1:=fun d=>d=.int 3) (P2:=fun d=>∃ r:Nat,r < 4∧d=.int r) ev_int (t_draw (.head _) rfl hdr hC (by exact q7 ‹_›) (ev_int.mono fun _ _ _ _ _ ⟨d,r,e⟩=>⟨d,r,4,by decide,e,fun r hr=>⟨r,hr,rfl⟩⟩)) (by
     rintro _ _ rfl ⟨r,hr,rfl⟩
     exact ⟨_,_,rfl,rfl,3+r,by omega,supL_hi (by simpa using h.symm) hr,by simp⟩)))
  ·rintro _ _ rfl ⟨r,hr,hs,rfl⟩
   exact ⟨_,_,_,rfl,rfl,by simp [supD],by exact qd,supL_at hr,_,hs,rfl⟩
  ·intro _ _ _ h;cases h
 intro ds G3 s3 hs c3
 refine st_own a noN c3 (evl_list (trs_nil (P:=fun l=>l=[]) rfl)) (ρ':=fun al l=>T w ad cs (B+3) (sgR w ad k dn dp ds (some ("decls" : Str),own w.params al l))) (fun al l=>.skip (fun h=>nomatch h) (.skip (by decide) (.skip (by decide) (.skip (by decide) (.skip (by decide) (.skip (by decide) .new)))))) rfl (.inl rfl) fun al l G4 s4 hl hnew c4=>?_
 subst hl
 refine wpAny_execs_cons (st_forT (n:=n+1) (B':=B+4) (Pds:=fun l=>∃ m:Nat,m < 3∧l=(List.range m).map fun i=>D.int ((i:Nat):Int)) a c4
  (iteT_range (P1:=fun d=>∃ m:Nat,m < 3∧d=.int m) (evv_blt rfl (by rfl) rfl rfl rfl rfl) (t_draw (.head _) rfl hdr hC (by exact q7 ‹_›) (ev_int.mono fun _ _ _ _ _ ⟨d,r,e⟩=>⟨d,r,3,by decide,e,fun r hr=>⟨r,hr,rfl⟩⟩)) rfl (by rintro _ ⟨m,hm,rfl⟩;exact ⟨m,rfl,by exact q6 ‹_›,m,hm,rfl⟩))
  (fun _ i=>T w ad cs (B+4+i) (sgR w ad k dn dp ds (some ("decls" : Str),ownE w al fun l=>∃ dl:List Dc,l=dl.map encDc∧dl.length=i∧∀ j d,dl[j]? = some d→dcK k j d)))
  (fun _ G5 s5 K hp c5=>?_) (fun dd i d v G5 s5 K hp hd hr c5=>?_) (fun dd G5 s5 hp c5=>?_))
 ·exact c5.shut (.tail (.tail (.tail (.tail (.tail (.tail (.tail .head))))))) ⟨[],rfl,rfl,by simp⟩
 ·obtain ⟨m,hm,rfl⟩:=hp
  have hdi:d=.int (i:Int)∧i < m:=by
   simp only [List.getElem?_map,Option.map_eq_some_iff] at hd
   obtain ⟨j,hj,rfl⟩:=hd
   obtain ⟨h1,h2⟩:=List.getElem?_eq_some_iff.mp hj
   simp at h1 h2
   subst h2
   exact ⟨rfl,h1⟩
  obtain ⟨rfl,him⟩:=hdi
  obtain ⟨_,⟨dl,rfl,hdl,hdc⟩,c6⟩:=c5.openE (x:="decls") (ρ':=fun l=>(none,K)::T w ad cs (B+4+i) (sgR w ad k dn dp ds (some ("decls" : Str),own w.params al l))) (fun l=>(.tail (.tail (.tail (.tail (.tail (.tail (.tail .head))))))))
  refine st_name c6 hr (ρ':=(none,K)::T w ad cs (B+4+i) [(some ("tape" : Str),dat w.params (.adr ad)),(some ("k" : Str),dat w.params (.int (k:Int))),(some ("names" : Str),dat w.params dn),(some ("parent" : Str),dat w.params dp),(some ("supers" : Str),dat w.params ds),(some ("decls" : Str),own w.params al (dl.map encDc)),(some ("j" : Str),dat w.params (.int (i:Int)))]) (.skip (fun h=>nomatch h) (.skip (fun h=>nomatch h) (.skip (by decide) (.skip (by decide) (.skip (by decide) (.skip (by decide) (.skip (by decide) (.skip (by decide) .new)))))))) rfl (.inl rfl) fun s6 c7=>?_
  have c8:=c7.swap
  refine st_asgT (B':=B+4+i+1) (P:=fun d=>∃ b,d=.bool b) a c8 (t_eq_int (P1:=fun d=>∃ r:Nat,d=.int r) (P2:=fun d=>d=.int 1) (t_draw mh1 rfl hdr hC (by omega) (ev_int.mono fun _ _ _ _ _ ⟨d,r,e⟩=>⟨d,r,2,by decide,e,fun r hr=>⟨r,rfl⟩⟩)) ev_int (by rintro _ _ ⟨r,rfl⟩ rfl;exact ⟨_,_,rfl,rfl,_,rfl⟩))
   (ρ':=fun d=>[(none,K),(some ("tape" : Str),dat w.params (.adr ad)),(some ("k" : Str),dat w.params (.int (k:Int))),(some ("names" : Str),dat w.params dn),(some ("parent" : Str),dat w.params dp),(some ("supers" : Str),dat w.params ds),(some ("decls" : Str),own w.params al (dl.map encDc)),(some ("j" : Str),dat w.params (.int (i:Int))),(some ("is_disj" : Str),dat w.params d)]) (fun d=>(.skip (fun h=>nomatch h) (.skip (by decide) (.skip (by decide) (.skip (by decide) (.skip (by decide) (.skip (by decide) (.skip (by decide) (.skip (by decide) .new))))))))) rfl (.inl rfl) ?_
  rintro _ G7 s7 ⟨bb,rfl⟩ c9
  have hf:=fun (x:Str)=>(0:Nat)
  refine st_asg (P:=fun d=>d=.tup ((if bb then [fN "f" k i,fN "g" k i] else [fN "f" k i]).map .str)) a noN c9
   (ev_sliceT (P1:=fun d=>d=.tup [.str (fN "f" k i),.str (fN "g" k i)]) (P2:=fun o=>o=none) (P3:=fun o=>o=some (if bb then 2 else 1)) (ev_tupQ (mq (ev_add_str (P1:=fun d=>d=.str (("f" : Str)++(toString (k:Int):Str))) (P2:=fun d=>d=.str (toString (i:Int):Str)) (P:=fun d=>d=.str (fN "f" k i)) (ev_add_str (P1:=fun d=>d=.str "f") (P2:=fun d=>d=.str (toString (k:Int):Str)) ev_str (ev_str_int (evv_blt rfl (by rfl) rfl rfl rfl rfl) (ev_name (d:=.int (k:Int)) mh3 rfl) (by exact fun _ a=>⟨_,a,by exact q1 ‹_›,rfl⟩)) (by exact fun _ _ a b=>⟨_,_,a,b,by rw [tS_len k hk,sizeLine_eq];decide,rfl⟩)) (ev_str_int (evv_blt rfl (by rfl) rfl rfl rfl rfl) (ev_name (d:=.int (i:Int)) mh8 rfl) (by exact fun _ a=>⟨_,a,by exact qi ‹_› ‹_›,rfl⟩)) (by exact fun _ _ a b=>⟨_,_,a,b,by rw [tS_len i (by exact qi ‹_› ‹_›),Str.length_append,tS_len k hk,sizeLine_eq];decide,rfl⟩)) (mq (ev_add_str (P1:=fun d=>d=.str (("g" : Str)++(toString (k:Int):Str))) (P2:=fun d=>d=.str (toString (i:Int):Str)) (P:=fun d=>d=.str (fN "g" k i)) (ev_add_str (P1:=fun d=>d=.str "g") (P2:=fun d=>d=.str (toString (k:Int):Str)) ev_str (ev_str_int (evv_blt rfl (by rfl) rfl rfl rfl rfl) (ev_name (d:=.int (k:Int)) mh3 rfl) (by exact fun _ a=>⟨_,a,by exact q1 ‹_›,rfl⟩)) (by exact fun _ _ a b=>⟨_,_,a,b,by rw [tS_len k hk,sizeLine_eq];decide,rfl⟩)) (ev_str_int (evv_blt rfl (by rfl) rfl rfl rfl rfl) (ev_name (d:=.int (i:Int)) mh8 rfl) (by exact fun _ a=>⟨_,a,by exact qi ‹_› ‹_›,rfl⟩)) (by exact fun _ _ a b=>⟨_,_,a,b,by rw [tS_len i (by exact qi ‹_› ‹_›),Str.length_append,tS_len k hk,sizeLine_eq];decide,rfl⟩)) mq_nil))) (.none rfl)
    (.some (ev_if (P1:=fun b=>b=bb) (tr_bool ((ev_name (d:=.bool bb) mh9 rfl).mono fun _ _ _ _ _ ⟨d,r,e⟩=>⟨d,r,_,e,rfl⟩)) (fun h=>ev_int.mono fun _ _ _ _ _ ⟨d,r,e⟩=>⟨d,r,_,e,by rw [← h];rfl⟩) (fun h=>ev_int.mono fun _ _ _ _ _ ⟨d,r,e⟩=>⟨d,r,_,e,by rw [← h];rfl⟩)))
    (by
     rintro _ _ _ rfl rfl rfl
     refine ⟨_,rfl,by simp,?_⟩
     cases bb<;>rfl))
   (ρ':=fun d=>T w ad cs (B+4+i+1) [(none,K),(some ("tape" : Str),dat w.params (.adr ad)),(some ("k" : Str),dat w.params (.int (k:Int))),(some ("names" : Str),dat w.params dn),(some ("parent" : Str),dat w.params dp),(some ("supers" : Str),dat w.params ds),(some ("decls" : Str),own w.params al (dl.map encDc)),(some ("j" : Str),dat w.params (.int (i:Int))),(some ("is_disj" : Str),dat w.params (.bool bb)),(some ("fields" : Str),dat w.params d)]) (fun d=>(.skip (fun h=>nomatch h) (.skip (fun h=>nomatch h) (.skip (by decide) (.skip (by decide) (.skip (by decide) (.skip (by decide) (.skip (by decide) (.skip (by decide) (.skip (by decide) (.skip (by decide) .new))))))))))) rfl (.inl rfl) ?_
  rintro _ G8 s8 rfl c10
  refine st_app (o:=.Name "decls" _) (l:=al) (ds:=dl.map encDc) (Ks:=fun d=>own w.params al (dl.map encDc++[d])) (P:=fun d=>d=encDc ⟨100+10 * (k:Int)+i,bb,if bb then [fN "f" k i,fN "g" k i] else [fN "f" k i]⟩) a c10 (evv_own mh7 rfl) (fun _=>(.tail (.tail (.tail (.tail (.tail (.tail (.tail .head)))))))) (fun _=>lkO)
   (ev_tupQ (mq (ev_add_int (P1:=fun d=>d=.int (100+10 * (k:Int))) (P2:=fun d=>d=.int (i:Int)) (ev_add_int (P1:=fun d=>d=.int 100) (P2:=fun d=>d=.int (10 * (k:Int))) ev_int (ev_mul_int (P1:=fun d=>d=.int 10) (P2:=fun d=>d=.int (k:Int)) ev_int (ev_name mh3 rfl) (by exact fun _ _ a b=>⟨_,_,a,b,⟨by decide,by exact q1 ‹_›⟩,rfl⟩)) (by exact fun _ _ a b=>⟨_,_,a,b,rfl⟩)) (ev_name mh8 rfl) (by exact fun _ _ a b=>⟨_,_,a,b,rfl⟩))
    (mq (ev_name mh9 rfl) (mq (ev_name mh10 rfl) (mq ev_str (mq (ev_tupQ (mq ev_str (mq ev_int (mq ev_str mq_nil)))) mq_nil)))))) (by simp;omega) ?_
  rintro _ G9 s9 rfl c11
  refine st_nil ⟨G9,?_⟩
  have c12:=(c11.swap.sub (List.sublist_append_left [_,_,_,_,_,_,_,_] [_,_,_])).shut (x:=some ("decls" : Str)) (P:=fun l=>∃ dl:List Dc,l=dl.map encDc∧dl.length=i+1∧∀ j d,dl[j]? = some d→dcK k j d) (ρ':=(none,K)::T w ad cs (B+4+i+1) (sgR w ad k dn dp ds (some ("decls" : Str),ownE w al fun l=>∃ dl:List Dc,l=dl.map encDc∧dl.length=i+1∧∀ j d,dl[j]? = some d→dcK k j d))) (.tail (.tail (.tail (.tail (.tail (.tail (.tail .head)))))))
   ⟨dl++[⟨100+10 * (k:Int)+i,bb,if bb then [fN "f" k i,fN "g" k i] else [fN "f" k i]⟩],by simp,by simp [hdl],dc_snoc hdl hdc ⟨rfl,rfl⟩⟩
  exact c12
 ·obtain ⟨m,hm,rfl⟩:=hp
  obtain ⟨_,⟨dl,rfl,hdl,hdc⟩,c6⟩:=c5.openE (x:="decls") (ρ':=fun l=>T w ad cs (B+4+((List.range m).map fun i=>D.int ((i:Nat):Int)).length) (sgR w ad k dn dp ds (some ("decls" : Str),own w.params al l))) (fun l=>(.tail (.tail (.tail (.tail (.tail (.tail .head)))))))
  simp only [List.length_map,List.length_range] at hdl c6
  obtain ⟨pp,hpp,rfl⟩:=hp'
  obtain ⟨sl,hsl,rfl⟩:=hs
  obtain ⟨nm,hnm,rfl⟩:∃ nm,(nm=[(poolN k).1]∨nm=[(poolN k).1,(poolN k).2])∧dn=.tup (nm.map .str):=by
   rcases hn with h | h
   ·exact ⟨_,.inl rfl,h⟩
   ·exact ⟨_,.inr rfl,h⟩
  refine st_ret a noN c6 (K:=fun _=>KD w (fun d=>d=encS ⟨10 * (k:Int)+10,nm,false,pp,sl,dl⟩))
   (ev_tupQ (mq ev_str (mq (ev_add_int (P1:=fun d=>d=.int (10 * (k:Int))) (P2:=fun d=>d=.int 10) (ev_mul_int (P1:=fun d=>d=.int 10) (P2:=fun d=>d=.int (k:Int)) ev_int (ev_name mh2 rfl) (by exact fun _ _ a b=>⟨_,_,a,b,⟨by decide,by exact q1 ‹_›⟩,rfl⟩)) ev_int (by exact fun _ _ a b=>⟨_,_,a,b,rfl⟩))
    (mq (ev_name mh3 rfl) (mq ev_bool (mq ev_str (mq (ev_name mh4 rfl) (mq (ev_name mh5 rfl)
     (mq (ev_tuple_lst (P1:=fun l=>l=dl.map encDc) (evv_blt rfl (by rfl) rfl rfl rfl rfl) (evs_own mh6 rfl) (by rintro _ rfl;exact ⟨by simp;omega,rfl⟩)) (mq (ev_tupQ mq_nil) mq_nil)))))))))) ?_
  rintro v G' s' y z ⟨d,r,rfl⟩
  refine kk (.ret v) G' s' z.step ?_ ⟨_,r,⟨10 * (k:Int)+10,nm,false,pp,sl,dl⟩,⟨rfl,hnm,rfl,hpp,by unfold supOk at hsl;exact hsl,by show dl.length≤2;omega,hdc⟩,rfl⟩
  obtain ⟨k',h1,h2⟩:=z.vars _ (.head _)
  exact ⟨k',by omega,h2⟩
end Mine
end
section
namespace Mine
variable {w:World} {env:Env} {n:Nat} {N:List Addr} {ρ:Rho} {ad:Addr} {cs:List D} {B B' B'':Nat}
theorem perm3 {α:Type} {x y z:α} {r:List α}:(x::y::z::r).Perm (z::x::y::r):=((List.Perm.swap z y r).cons x).trans (.swap z x (y::r))
theorem emit_lastT {elt:PySem.Expr} {A:Around} {G₀ G:Fz} {s₀ s:Shared} {M:List Addr} {E:Value→Shared→Prop} {K1:Kd} {Dd:Addr} {acc:List D} {ρX ρc:Rho} {R:D→Prop} (a:AOK n A)
  (c:St w env G₀ s₀ M ((none,K1)::(none,accK w Dd acc)::T w ad cs B ρX) G s) (he:EvT w env n ad cs ((none,K1)::(none,accK w Dd acc)::ρX) B B' elt R) (hsub:ρc.Sublist ρX) (hlen:acc.length≤1000000) :
  wpAny (model pw w) A (do let _←call (.builtin "list.append") [.ref Dd,← eval elt env]) (fun _ s2=>∃ G2 r,R r∧St w env G₀ s₀ M ((none,K1)::(none,accK w Dd (acc++[r]))::T w ad cs B' ρc) G2 s2) E s:=by
 refine wpAny_bind (he A G₀ s₀ M G s _ _ a (c.perm perm3) fun x G7 s7 y7 c7 ⟨r,rr',hrr⟩=>?_)
 have c7:=c7.perm perm3.symm
 obtain ⟨vs,mm,e1,r1⟩:=c7.vars (none,accK w Dd acc) (by simp)
 have hl:=r1.arr
 refine wpAny_bind (wpAny_list_append_plain ⟨mm,e1⟩ (fun h8 hl8 hs8=>wpAny_pure ?_) (by rw [sizeLine_eq];exact qk ‹_› ‹_›))
 obtain ⟨m8,ho8⟩:=hl8
 have c8:=c7.swap.chg (K':=accK w Dd (acc++[r])) (I:=Dd) (h':=h8) (by show Dd∈[Dd];simp) (fun b o hb e=>(hs8.2 b hb).trans e) (by rw [ho8];exact (fun h=>(nomatch h))) rfl rfl
  (fun v _ _=>⟨_,m8,ho8,by simpa using r1.append (.cons rr' .nil)⟩) s7.toks
 exact ⟨G7,r,hrr,c8.swap.sub (((hsub.cons_cons _).cons_cons _).cons_cons _)⟩
theorem comp1T {elt target iter:PySem.Expr} {scope:Scope} {pos ipos:Pos} {cl:List (Str×Addr)} {use:Option (Value→Sem Unit)} {ds:List D} {P:List D→Prop} {ρr ρcr:Rho} (c0:Nat) (ρd:D→Rho) (R:D→D→Prop)
  {A:Around} {G₀ G:Fz} {s₀ s:Shared} {M:List Addr} {Q:Value→Shared→Prop} {E:Value→Shared→Prop} (a:AOK n A) (c:St w env G₀ s₀ M (T w ad cs B ρr) G s)
  (hi:Ite w env n [] (T w ad cs B ρr) iter (fun l=>l=ds)) (hclos:closureFor scope env=pure cl) (hcell:∀ y∈scope.names,y.2≠.cell) (hkind:scope.kind=.function) (hnames:∀ y∈scope.names,y.2=.local→scope.names.lookup y.1=some .local)
  (hcl:∀ y cc,cl.lookup y=some cc→∃ y',env.cells.lookup y'=some cc) (hclp:cl.Pairwise fun x y=>x.2≠y.2)
  (hcap:Cap [ad] env scope cl ρr ρcr)
  (hasg:∀ C K1 K2 Bx A E G₀ s₀ G s d v,AOK n A→d∈ds→Rep w.params G v d→St w (compEnvC scope cl C env) G₀ s₀ [ad] ((none,K1)::(none,K2)::T w ad cs Bx ρcr) G s→
   wpAny (model pw w) A (assign target (compEnvC scope cl C env) v) (fun _ s2=>∃ G2,St w (compEnvC scope cl C env) G₀ s₀ [ad] ((none,K1)::(none,K2)::T w ad cs Bx (ρd d)) G2 s2) E s)
  (hsub:∀ d,ρcr.Sublist (ρd d))
  (helt:∀ C K1 K2 i d,i < ds.length→d∈ds→EvT w (compEnvC scope cl C env) n ad cs ((none,K1)::(none,K2)::ρd d) (B+c0 * i) (B+c0 * (i+1)) elt (R d))
  (hlen:ds.length≤1000000) (hP:∀ l,All2 R ds l→P l)
  (fin:∀ C Dd acc G2 s2,P acc→s.heap.get? Dd=none→s.heap.get? C=none→Step G s [ad] G2 s2→St w env G₀ s₀ M ((none,nsK C)::(none,accK w Dd acc)::T w ad cs (B+c0 * ds.length) ρr) G2 s2→compPost (model pw w) A E use Q (.ref Dd) C (.ok .next) s2)
  (hs:∀ x,foldedSetIterable iter env x=pure x:=by intro _;rfl) :
  wpAny (model pw w) A (comprehension (.ListComp elt [⟨target,iter,[],0⟩] scope pos) scope env ipos (newList []) false (eval iter env) use) Q E s:=by
 refine comp_coreT (P:=P) (B':=B+c0 * ds.length) a c hi hclos hcell hkind hnames hcl hclp hcap (fun C Dd I ds' IF G1 s1 Rr it hp hI c1 dn=>?_) fin hs
 subst hp
 refine comp_loopT (emit:=fun acc=>do let _←call (.builtin "list.append") [acc,← eval elt (compEnvC scope cl C env)]) (p0:=iter.pos) (fun it acc=>compTurn_list elt target iter [] scope pos it acc _) (fun i=>T w ad cs (B+c0 * i) ρcr) (fun i d=>T w ad cs (B+c0 * i) (ρd d))
  (fun i acc=>All2 R (ds'.take i) acc) it hI a.2.2 (fun i acc hinv=>?_) (fun E i acc d v G s hd hinv hr c2=>?_) (fun E i acc d G s hd hinv c2=>?_) (fun E i acc d G s hd hinv c2=>?_) (fun acc G s hinv c2=>?_) G1 s1 [] (by simpa using All2.nil) c1
 ·have h1:=hinv.length
  rw [List.length_take] at h1
  omega
 ·exact hasg C _ _ _ A E _ _ _ _ d v a (List.mem_of_getElem? hd) hr c2
 ·exact (TrsN.run (N:=[ad]) .none a (fun _ h=>h) c2)
 ·have hl:acc.length≤1000000:=by
   have h1:=hinv.length
   rw [List.length_take] at h1
   omega
  refine wpAny_mono (emit_lastT a c2 (helt C _ _ i d ((List.getElem?_eq_some_iff.mp hd).1) (List.mem_of_getElem? hd)) (hsub d) hl) (fun _ s2 ⟨G2,r,hr,c3⟩=>⟨G2,_,?_,c3⟩) fun _ _ e=>e
  show All2 R (ds'.take (i+1)) _
  rw [List.take_add_one,hd];exact hinv.snoc hr
 ·refine dn acc G s (hP acc ?_) c2
  rw [List.take_length] at hinv
  exact hinv
theorem evl_listQ {elts:List PySem.Expr} {pos} {ds:List D} (h:Trs w env n N ρ (ml env elts) (fun l=>l=ds)) (ht:backTo pos (starEach elts env)=ml env elts:=by rfl) (hsz:elts.length≤100:=by simp) :
  EvL w env n N ρ (.List elts pos) (fun l=>l=ds):=evl_list h ht (by unfold ml;simpa using hsz)
noncomputable def stdO:Opn:=⟨90,"util/ordering",["A"],"o"⟩
inductive IsModel (its:List Im):Prop
 | mk (t0 t1 t2 t3:Sg) (ts:List Sg):IsSig 0 t0→IsSig 1 t1→IsSig 2 t2→IsSig 3 t3→ts.Perm [t0,t1,t2,t3]→its=ts.map .sig++[.opn stdO]→IsModel its
noncomputable def envMd (L:Addr):Env:=callEnvC (lawFd 12 "_law_model" 284) L 285
noncomputable def mdS (l:List D):Prop:=∃ (t0 t1 t2 t3:Sg) (ts:List Sg),IsSig 0 t0∧IsSig 1 t1∧IsSig 2 t2∧IsSig 3 t3∧ts.Perm [t0,t1,t2,t3]∧l=ts.map encS
theorem mdS.four {l:List D} (h:All2 (fun d r=>∃ k:Nat,d=.int (k:Int)∧∃ t,IsSig k t∧r=encS t) ((List.range 4).map fun i=>D.int ((i:Nat):Int)) l):mdS l:=by
 have e:((List.range 4).map fun i=>D.int ((i:Nat):Int))=[.int (0:Nat),.int (1:Nat),.int (2:Nat),.int (3:Nat)]:=rfl
 rw [e] at h
 cases h with | cons h0 h=>cases h with | cons h1 h=>cases h with | cons h2 h=>cases h with | cons h3 h=>cases h with | nil=>
  obtain ⟨k0,e0,t0,s0,rfl⟩:=h0
  obtain ⟨k1,e1,t1,s1,rfl⟩:=h1
  obtain ⟨k2,e2,t2,s2,rfl⟩:=h2
  obtain ⟨k3,e3,t3,s3,rfl⟩:=h3
  have g0:(0:Nat)=k0:=by injection e0 with q;omega
  have g1:(1:Nat)=k1:=by injection e1 with q;omega
  have g2:(2:Nat)=k2:=by injection e2 with q;omega
  have g3:(3:Nat)=k3:=by injection e3 with q;omega
  subst g0 g1 g2 g3
  exact ⟨t0,t1,t2,t3,_,s0,s1,s2,s3,.refl _,rfl⟩
theorem mdS.rot {l:List D} (h:mdS l) (r:Nat):mdS (l.drop r++l.take r):=by
 obtain ⟨t0,t1,t2,t3,ts,s0,s1,s2,s3,q,rfl⟩:=h
 exact ⟨t0,t1,t2,t3,ts.drop r++ts.take r,s0,s1,s2,s3,((List.perm_append_comm.trans (by rw [List.take_append_drop])).trans q),by simp [List.map_drop,List.map_take]⟩
theorem mdS.rev {l:List D} (h:mdS l):mdS l.reverse:=by
 obtain ⟨t0,t1,t2,t3,ts,s0,s1,s2,s3,q,rfl⟩:=h
 exact ⟨t0,t1,t2,t3,ts.reverse,s0,s1,s2,s3,(List.reverse_perm _).trans q,by simp⟩
theorem mdS.len {l:List D} (h:mdS l):l.length=4:=by
 obtain ⟨t0,t1,t2,t3,ts,s0,s1,s2,s3,q,rfl⟩:=h
 rw [List.length_map,q.length_eq];rfl
theorem mdS.out {l:List D} (h:mdS l):∃ its,IsModel its∧l++[encI (.opn stdO)]=its.map encI:=by
 obtain ⟨t0,t1,t2,t3,ts,s0,s1,s2,s3,q,rfl⟩:=h
 exact ⟨ts.map .sig++[.opn stdO],⟨t0,t1,t2,t3,ts,s0,s1,s2,s3,q,rfl⟩,by rw [List.map_append,List.map_map];rfl⟩
theorem pick_lo {α:Type} {l:List α} {r:Nat} (h:r≤l.length):pick l (some (r:Int)) none=l.drop r:=by
 have:¬ ((r:Int) < 0):=by exact qe
 unfold pick kms_lo kms_hi
 simp only [this,if_false,Int.toNat_natCast,Nat.min_eq_left h]
 exact List.take_of_length_le (by simp)
theorem pick_hi {α:Type} {l:List α} {r:Nat} (h:r≤l.length):pick l none (some (r:Int))=l.take r:=by
 have:¬ ((r:Int) < 0):=by exact qe
 unfold pick kms_lo kms_hi
 simp only [this,if_false,Int.toNat_natCast,Nat.min_eq_left h]
 simp
set_option maxHeartbeats 400000 in
theorem o_model (hC:Cs cs) (hB:B≤500):OpT w (n+3) ad cs B (B+26) 285 (fun ds=>ds=[.adr ad]) (fun _ d=>∃ its,IsModel its∧d=.lst (its.map encI)):=by
 refine op_tp ff_model ["tape"] (bind1 fun _=>rfl) (by decide) (by decide +kernel) (fun ds e=>by subst e;rfl) fun L ds A G s s₁ Q E e a c kk=>?_
 subst e
 change St w (envMd L) _ _ _ _ _ _ at c
 change wpAny _ _ (execs _ (envMd L)) _ _ _
 have hdr:∀ {ρ:Rho} {pos},EvV w (envMd L) (n+2) [] ρ (.Name "_law_draw" pos) (.ref 273):=fun {ρ pos}=>evv_glob rfl (by rfl) rfl rfl
 have c':St w (envMd L) G s [ad] (T w ad cs B [(some ("tape" : Str),dat w.params (.adr ad))]) G s₁:=c
 refine st_comp (P:=mdS) (ρ:=T w ad cs (B+6 * 4) [(some ("tape" : Str),dat w.params (.adr ad))]) (ρ':=fun al l=>T w ad cs (B+24) [(some ("tape" : Str),dat w.params (.adr ad)),(some ("found" : Str),own w.params al l)]) (fun C al l=>.skip (fun h=>nomatch h) (.skip (fun h=>nomatch h) (.skip (by decide) .new))) rfl rfl (c'.more (by exact qa)) ?_ (fun Q' fin=>?_)
 ·intro al l G1 s1 hl hnew c1
  refine st_asgT (B':=B+25) (P:=fun d=>∃ r:Nat,r < 4∧d=.int r) a c1 (t_draw (.head _) rfl hdr hC (by exact q7 ‹_›) (ev_int.mono fun _ _ _ _ _ ⟨d,r,e⟩=>⟨d,r,4,by decide,e,fun r hr=>⟨r,hr,rfl⟩⟩))
   (ρ':=fun d=>[(some ("tape" : Str),dat w.params (.adr ad)),(some ("found" : Str),own w.params al l),(some ("turn" : Str),dat w.params d)]) (fun d=>.skip (by decide) (.skip (by decide) .new)) rfl (.inl rfl) ?_
  rintro _ G2 s2 ⟨r,hr,rfl⟩ c2
  have hlen:=hl.len
  refine st_own a noN c2 (evl_add (P1:=fun l'=>l'=l.drop r) (P2:=fun l'=>l'=l.take r) (P:=mdS)
    (EvL.evs (evl_sliceS (P1:=fun l'=>l'=l) (P2:=fun o=>o=some (r:Int)) (P3:=fun o=>o=none) (evs_own mh2 rfl) (.some ((ev_name (d:=.int (r:Int)) mh3 rfl).mono fun _ _ _ _ _ ⟨d,rr,e⟩=>⟨d,rr,_,e,rfl⟩)) (.none rfl) (by rintro _ _ _ rfl rfl rfl;exact ⟨by exact q5 ‹_›,pick_lo (by omega)⟩)))
    (EvL.evs (evl_sliceS (P1:=fun l'=>l'=l) (P2:=fun o=>o=none) (P3:=fun o=>o=some (r:Int)) (evs_own mh2 rfl) (.none rfl) (.some ((ev_name (d:=.int (r:Int)) mh3 rfl).mono fun _ _ _ _ _ ⟨d,rr,e⟩=>⟨d,rr,_,e,rfl⟩)) (by rintro _ _ _ rfl rfl rfl;exact ⟨by exact q5 ‹_›,pick_hi (by omega)⟩)))
    (by rintro _ _ rfl rfl;exact ⟨by simp;omega,hl.rot r⟩))
   (ρ':=fun al l=>T w ad cs (B+25) [(some ("tape" : Str),dat w.params (.adr ad)),(some ("found" : Str),own w.params al l),(some ("turn" : Str),dat w.params (.int (r:Int)))]) (fun al l=>.skip (fun h=>nomatch h) (.skip (by decide) .hit)) rfl (.inl rfl) ?_
  intro al2 l2 G3 s3 hl2 hnew2 c3
  have hlen2:=hl2.len
  refine st_ifT (B':=B+26) (P:=fun _=>True) a c3 (trT_eq_int (P1:=fun d=>∃ r:Nat,d=.int r) (P2:=fun d=>d=.int 1) (t_draw (.head _) rfl hdr hC (by exact q7 ‹_›) (ev_int.mono fun _ _ _ _ _ ⟨d,r,e⟩=>⟨d,r,2,by decide,e,fun r hr=>⟨r,rfl⟩⟩)) ev_int (by rintro _ _ ⟨r,rfl⟩ rfl;exact ⟨_,_,rfl,rfl,trivial⟩)) fun b G4 s4 _ c4=>?_
  cases b with
  | false=>
   refine st_nil ?_
   refine st_ret a noN c4 (K:=fun _=>KD w (fun d=>∃ its,IsModel its∧d=.lst (its.map encI))) ((EvL.ev (evl_add (P1:=fun l'=>l'=l2) (P2:=fun l'=>l'=[encI (.opn stdO)]) (P:=fun l'=>∃ its,IsModel its∧l'=its.map encI) (evs_own mh2 rfl) (EvL.evs (evl_listQ (mq (ev_tupQ (mq ev_str (mq ev_int (mq ev_str (mq (ev_tupQ (mq ev_str mq_nil)) (mq ev_str mq_nil)))))) mq_nil))) (by rintro _ _ rfl rfl;have:=hl2.len;exact ⟨by simp;exact q5 ‹_›,hl2.out⟩))).mono fun _ _ _ _ _ ⟨d,rr,l',e,its,h1,h2⟩=>⟨d,rr,its,h1,by rw [e,h2]⟩) fun v G' s' y z q=>kk (.ret v) G' s' z.step (z.vars _ (.head _)) q
  | true=>
   refine st_own a noN c4 (evl_rev (P1:=fun l'=>l'=l2) (P:=mdS) (evs_own mh2 rfl) (by rintro _ rfl;exact ⟨by exact q5 ‹_›,hl2.rev⟩) ev_neg1)
    (ρ':=fun al l=>T w ad cs (B+26) [(some ("tape" : Str),dat w.params (.adr ad)),(some ("found" : Str),own w.params al l),(some ("turn" : Str),dat w.params (.int (r:Int)))]) (fun al l=>.skip (fun h=>nomatch h) (.skip (by decide) .hit)) rfl (.inl rfl) ?_
   intro al3 l3 G5 s5 hl3 hnew3 c5
   refine st_nil ?_
   refine st_ret a noN c5 (K:=fun _=>KD w (fun d=>∃ its,IsModel its∧d=.lst (its.map encI))) ((EvL.ev (evl_add (P1:=fun l'=>l'=l3) (P2:=fun l'=>l'=[encI (.opn stdO)]) (P:=fun l'=>∃ its,IsModel its∧l'=its.map encI) (evs_own mh2 rfl) (EvL.evs (evl_listQ (mq (ev_tupQ (mq ev_str (mq ev_int (mq ev_str (mq (ev_tupQ (mq ev_str mq_nil)) (mq ev_str mq_nil)))))) mq_nil))) (by rintro _ _ rfl rfl;have:=hl3.len;exact ⟨by simp;exact q5 ‹_›,hl3.out⟩))).mono fun _ _ _ _ _ ⟨d,rr,l',e,its,h1,h2⟩=>⟨d,rr,its,h1,by rw [e,h2]⟩) fun v G' s' y z q=>kk (.ret v) G' s' z.step (z.vars _ (.head _)) q
 ·refine comp1T (cl:=[("tape",L+1)]) (ds:=(List.range 4).map fun i=>D.int ((i:Nat):Int)) (P:=mdS) (ρr:=[(some ("tape" : Str),dat w.params (.adr ad))]) (ρcr:=[(some ("tape" : Str),dat w.params (.adr ad))]) 6 (fun d=>[(some ("tape" : Str),dat w.params (.adr ad)),(some ("k" : Str),dat w.params d)]) (fun d r=>∃ k:Nat,d=.int (k:Int)∧∃ t,IsSig k t∧r=encS t) a c'
   (ite_range (P1:=fun d=>d=.int 4) (evv_blt rfl (by rfl) rfl rfl rfl rfl) ev_int rfl (by rintro _ rfl;exact ⟨4,rfl,by decide,rfl⟩)) rfl (by decide) rfl (by decide) ?_ (by simp) (.var (by first | exact .inl rfl | exact .inr rfl) rfl (by first | exact .inl rfl | exact .inr rfl) .nil) ?_ (fun d=>List.sublist_append_left [_] [_]) ?_ (by simp) (fun l h=>mdS.four h) (fun C Dd acc G2 s2 h1 h2 h3 h4 h5=>fin C Dd acc G2 s2 h1 h2 h3 (by simpa using h5))
  ·intro y cc h
   simp only [List.lookup_cons,List.lookup_nil] at h
   split at h
   ·cases h;exact ⟨"tape",rfl⟩
   ·cases h
  ·rintro C K1 K2 Bx A E G₀ s₀ G s d v aa hd hr cc
   exact st_name cc hr (.skip (fun h=>nomatch h) (.skip (fun h=>nomatch h) (.skip (fun h=>nomatch h) (.skip (by decide) .new)))) rfl (.inl rfl) fun s' c'=>⟨_,c'⟩
  ·intro C K1 K2 i d hi hd
   obtain ⟨k,hk,rfl⟩:=List.mem_map.mp hd
   have hi4:i < 4:=by simpa using hi
   exact t_callT (PA:=fun ds=>ds=[.adr ad,.int (k:Int)]) ff_sig (evv_glob rfl (by rfl) rfl rfl) (trs_cons (P1:=fun d=>d=.adr ad) (P2:=fun l=>l=[.int (k:Int)]) (ev_name mh3 rfl) (trs_one (ev_name (d:=.int (k:Int)) mh4 rfl) (fun d e=>by rw [e])) (by rintro _ _ rfl rfl;rfl)) rfl ⟨_,_,rfl⟩ (o_sig hC k (by simpa using hk) (by omega)) (fun ds d e h=>⟨k,rfl,h⟩)
end Mine
end
section
namespace Mine
variable {w:World} {env:Env} {n:Nat} {N:List Addr} {ρ:Rho} {ad:Addr} {cs:List D} {B B' B'':Nat}
noncomputable def putD (l m:List D) (k p:Nat) (x:D):List D:=l.take k++[.tup (m.take p++[x]++m.drop (p+1))]++l.drop (k+1)
noncomputable def envPt (L:Addr):Env:=callEnvC (lawFd 19 "_law_put" 325) L 326
set_option maxHeartbeats 400000 in
theorem c_put {l m:List D} {k p:Nat} {x:D} (hl:l.length≤1000) (hm:l[k]? = some (.tup m)) (hml:m.length≤1000) (hp:p < m.length) {G:Fz} {s:Shared} {vs:List Value} (i:Inn G s.heap) (b:Bs w G) (r:RepL w.params G vs [.lst l,.int (k:Int),.int (p:Int),x]) :
  Op w (n+1) [] G s (call (.ref 326) vs) (KD w (fun d=>d=.lst (putD l m k p x))):=by
 refine op_dat ff_put ["items","k","place","part"] (bind4 fun _ _ _ _=>rfl) (by decide) (by decide +kernel) i b r rfl ?_
 rintro env A s₁ Q E rfl a c kk
 change St w (envPt _) _ _ _ _ _ _ at c
 change wpAny _ _ (execs _ (envPt _)) _ _ _
 generalize s.heap.objs.size=L at c ⊢
 have hk:k < l.length:=(List.getElem?_eq_some_iff.mp hm).1
 generalize hρ:rhoOf w.params ["items","k","place","part"] [.lst l,.int (k:Int),.int (p:Int),x]=ρ at c
 have hit:∀ {pos},Ev w (envPt L) n [] ρ (.Name "items" pos) (fun d=>d=.lst l):=fun {pos}=>ev_name (by rw [← hρ];exact .head _) rfl
 have hkk:∀ {pos},Ev w (envPt L) n [] ρ (.Name "k" pos) (fun d=>d=.int (k:Int)):=fun {pos}=>ev_name (by rw [← hρ];exact mh1) rfl
 have hpp:∀ {pos},Ev w (envPt L) n [] ρ (.Name "place" pos) (fun d=>d=.int (p:Int)):=fun {pos}=>ev_name (by rw [← hρ];exact mh2) rfl
 have hx:∀ {pos},Ev w (envPt L) n [] ρ (.Name "part" pos) (fun d=>d=x):=fun {pos}=>ev_name (by rw [← hρ];exact mh3) rfl
 have hrow:∀ {p1 p2 p3},Ev w (envPt L) n [] ρ (.Subscript (.Name "items" p1) (.Name "k" p2) p3) (fun d=>d=.tup m):=fun {p1 p2 p3}=>ev_sub_lst hit hkk (by rintro _ _ rfl rfl;exact ⟨_,_,_,rfl,rfl,by exact q1 ‹_›,by exact qd,hm,rfl⟩)
 refine st_ret a noN c (K:=fun _=>KD w (fun d=>d=.lst (putD l m k p x))) ((EvL.ev (evl_add (P1:=fun l'=>l'=l.take k++[.tup (m.take p++[x]++m.drop (p+1))]) (P2:=fun l'=>l'=l.drop (k+1)) (P:=fun l'=>l'=putD l m k p x)
  (EvL.evs (evl_add (P1:=fun l'=>l'=l.take k) (P2:=fun l'=>l'=[.tup (m.take p++[x]++m.drop (p+1))])
   (EvL.evs (evl_sliceS (P1:=fun l'=>l'=l) (P2:=fun o=>o=none) (P3:=fun o=>o=some (k:Int)) (evs_lst hit fun d h=>⟨_,h,rfl⟩) (.none rfl) (.some (hkk.mono fun _ _ _ _ _ ⟨d,r,e⟩=>⟨d,r,_,e,rfl⟩)) (by rintro _ _ _ rfl rfl rfl;exact ⟨by exact q1 ‹_›,pick_hi (by exact Nat.le_of_lt ‹_›)⟩)))
   (EvL.evs (evl_listQ (mq (ev_add_tup (P1:=fun d=>d=.tup (m.take p++[x])) (P2:=fun d=>d=.tup (m.drop (p+1)))
    (ev_add_tup (P1:=fun d=>d=.tup (m.take p)) (P2:=fun d=>d=.tup [x])
     (ev_sliceT (P1:=fun d=>d=.tup m) (P2:=fun o=>o=none) (P3:=fun o=>o=some (p:Int)) hrow (.none rfl) (.some (hpp.mono fun _ _ _ _ _ ⟨d,r,e⟩=>⟨d,r,_,e,rfl⟩)) (by rintro _ _ _ rfl rfl rfl;exact ⟨_,rfl,by exact q1 ‹_›,by rw [pick_hi (by exact Nat.le_of_lt ‹_›)]⟩))
     (ev_tupQ (mq hx mq_nil)) (by exact fun _ _ a b=>⟨_,_,a,b,by simp;exact q3 ‹_›,rfl⟩))
    (ev_sliceT (P1:=fun d=>d=.tup m) (P2:=fun o=>o=some ((p+1:Nat):Int)) (P3:=fun o=>o=none) hrow (.some (ev_add_int (P1:=fun d=>d=.int (p:Int)) (P2:=fun d=>d=.int 1) hpp ev_int (by exact fun _ _ a b=>⟨_,_,a,b,_,rfl,by simp⟩))) (.none rfl) (by rintro _ _ _ rfl rfl rfl;exact ⟨_,rfl,by exact q1 ‹_›,by rw [pick_lo (by omega)]⟩))
    (by exact fun _ _ a b=>⟨_,_,a,b,by simp;exact q4 ‹_› ‹_›,rfl⟩)) mq_nil)))
   (by rintro _ _ rfl rfl;exact ⟨by simp;exact q3 ‹_›,rfl⟩)))
  (EvL.evs (evl_sliceS (P1:=fun l'=>l'=l) (P2:=fun o=>o=some ((k+1:Nat):Int)) (P3:=fun o=>o=none) (evs_lst hit fun d h=>⟨_,h,rfl⟩) (.some (ev_add_int (P1:=fun d=>d=.int (k:Int)) (P2:=fun d=>d=.int 1) hkk ev_int (by exact fun _ _ a b=>⟨_,_,a,b,_,rfl,by simp⟩))) (.none rfl) (by rintro _ _ _ rfl rfl rfl;exact ⟨by exact q1 ‹_›,pick_lo (by omega)⟩)))
  (by rintro _ _ rfl rfl;exact ⟨by simp;exact q4 ‹_› ‹_›,rfl⟩))).mono fun _ _ _ _ _ ⟨d,rr,l',e,h2⟩=>⟨d,rr,by rw [e,h2]⟩) fun v G' s' y z q=>kk (.ret v) G' s' z.step q
end Mine
end
section
namespace Mine
variable {w:World} {env:Env} {n:Nat} {N:List Addr} {ρ:Rho} {ad:Addr} {cs:List D} {B B' B'':Nat}
theorem mem_sigsOf {t:Sg} {its:List Im} (h:Im.sig t∈its):t∈sigsOf its:=by
 induction its with
 | nil=>cases h
 | cons i r ih=>
  cases i with
  | sig u=>exact (List.mem_cons.mp h).elim (fun e=>by cases e;exact .head _) fun h=>.tail _ (ih h)
  | opn o=>exact (List.mem_cons.mp h).elim (fun e=>nomatch e) ih
noncomputable def isI (y:Str):Im→Bool
 | .sig t=>decide (y∈t.names)
 | .opn _=>false
noncomputable def isN (its:List Im) (y:Str) (k:Nat):Bool:=match its[k]? with
 | some im=>isI y im
 | none=>false
noncomputable def ofN (its:List Im) (y:Str):List Nat:=(List.range its.length).filter (isN its y)
noncomputable def pN (its:List Im) (y:Str):D→Bool
 | .int z=>isN its y z.toNat
 | _=>false
theorem range_filter_pN (its:List Im) (y:Str) (m:Nat):((List.range m).map fun i=>D.int ((i:Nat):Int)).filter (pN its y)=((List.range m).filter (isN its y)).map fun i=>D.int ((i:Nat):Int):=by
 rw [List.filter_map]
 congr 1
noncomputable def envOf (L:Addr):Env:=callEnvC (lawFd 20 "_law_of_name" 330) L 331
set_option maxHeartbeats 400000 in
theorem c_ofname {its:List Im} {y:Str} {k:Nat} (hl:its.length≤1000) (hy:PyData.strOk y=true) (hs:∀ t∈sigsOf its,∀ z∈t.names,PyData.strOk z=true) (hk:(ofN its y).head? = some k) {G:Fz} {s:Shared} {vs:List Value} (i:Inn G s.heap) (b:Bs w G) (r:RepL w.params G vs [.lst (its.map encI),.str y]) :
  Op w (n+1) [] G s (call (.ref 331) vs) (KD w (fun d=>d=.int (k:Int))):=by
 refine op_dat ff_ofname ["items","name"] (bind2 fun _ _=>rfl) (by decide) (by decide +kernel) i b r rfl ?_
 rintro env A s₁ Q E rfl a c kk
 change St w (envOf _) _ _ _ _ _ _ at c
 change wpAny _ _ (execs _ (envOf _)) _ _ _
 generalize s.heap.objs.size=L at c ⊢
 have c':St w (envOf L) G s [] [(some ("items" : Str),dat w.params (.lst (its.map encI))),(some ("name" : Str),dat w.params (.str y))] G s₁:=c
 refine st_ret a noN c' (K:=fun _=>KD w (fun d=>d=.int (k:Int))) (ev_sub_lstS (P1:=fun l=>l=(ofN its y).map fun i=>D.int ((i:Nat):Int)) (P2:=fun d=>d=.int 0) (EvL.evs ?_) ev_int ?_) fun v G' s' y z q=>kk (.ret v) G' s' z.step q
 ·refine evl_comp1 (Pds:=fun ds=>ds=(List.range its.length).map fun i=>D.int ((i:Nat):Int)) (cl:=[("name",L+2),("items",L+1)]) [(some ("items" : Str),dat w.params (.lst (its.map encI))),(some ("name" : Str),dat w.params (.str y))] (fun d=>[(some ("items" : Str),dat w.params (.lst (its.map encI))),(some ("name" : Str),dat w.params (.str y)),(some ("k" : Str),dat w.params d)])
   (pN its y) (fun d r=>r=d)
   (ite_range (P1:=fun d=>d=.int (its.length:Int)) (evv_blt rfl (by rfl) rfl rfl rfl rfl) (ev_lenS (P1:=fun l=>l=its.map encI) (evv_blt rfl (by rfl) rfl rfl rfl rfl) (evs_lst (ev_name (.head _) rfl) fun d h=>⟨_,h,rfl⟩) rfl (by rintro _ rfl;exact ⟨by simp;exact q1 ‹_›,by simp⟩)) rfl (by exact fun _ a=>⟨_,a,by exact q1 ‹_›,rfl⟩))
   rfl (by decide) rfl (by decide) ?_ (fun _=>by simp) (.var (by first | exact .inl rfl | exact .inr rfl) rfl (by first | exact .inl rfl | exact .inr rfl) (.var (by first | exact .inl rfl | exact .inr rfl) rfl (by first | exact .inl rfl | exact .inr rfl) .nil)) (fun _ h=>nomatch h) ?_ (fun d=>List.sublist_append_left [_,_] [_]) ?_ ?_ ?_
  ·intro y cc h
   simp only [List.lookup_cons,List.lookup_nil] at h
   split at h
   ·cases h;exact ⟨"name",rfl⟩
   ·split at h
    ·cases h;exact ⟨"items",rfl⟩
    ·cases h
  ·rintro C K1 K2 A E G₀ s₀ G s ds d v aa rfl hd hr cc
   exact st_name cc hr (.skip (fun h=>nomatch h) (.skip (fun h=>nomatch h) (.skip (by decide) (.skip (by decide) .new)))) rfl (.inl rfl) fun s' c'=>⟨_,c'⟩
  ·rintro C K1 K2 ds d rfl hd
   obtain ⟨j,hj,rfl⟩:=List.mem_map.mp hd
   have hj:=List.mem_range.mp hj
   obtain ⟨im,him⟩:∃ im,its[j]? = some im:=⟨its[j],List.getElem?_eq_getElem hj⟩
   have hrow:∀ {env':Env} (hk':env'.scope.kind=.function) {p1 p2 p3},Ev w env' n [] [(none,K1),(none,K2),(some ("items" : Str),dat w.params (.lst (its.map encI))),(some ("name" : Str),dat w.params (.str y)),(some ("k" : Str),dat w.params (.int (j:Int)))] (.Subscript (.Name "items" p1) (.Name "k" p2) p3) (fun d=>d=encI im):=fun {env'} hk' {p1 p2 p3}=>ev_sub_lst (ev_name mh2 hk') (ev_name mh4 hk') (by rintro _ _ rfl rfl;exact ⟨_,_,_,rfl,rfl,by simp;exact q1 ‹_›,by exact qd,by simp [him],rfl⟩)
   have hp:pN its y (.int (j:Int))=isI y im:=by
    show isN its y j=_
    unfold isN
    rw [him]
   rw [hp]
   cases im with
   | opn o=>exact .one (tr_and' (P1:=fun b=>b=false) (P2:=fun _=>True) (tr_eq_str (P1:=fun d=>d=.str "open") (P2:=fun d=>d=.str "sig") (pu_tup (hrow rfl) (by simp) rfl) ev_str (by exact fun _ _ a b=>⟨_,_,a,b,rfl⟩)) (fun h=>nomatch h) (by rintro _ _ rfl _;rfl))
   | sig t=>exact .one (tr_and' (P1:=fun b=>b=true) (P2:=fun b=>b=decide (y∈t.names)) (tr_eq_str (P1:=fun d=>d=.str "sig") (P2:=fun d=>d=.str "sig") (pu_tup (hrow rfl) (by simp) rfl) ev_str (by exact fun _ _ a b=>⟨_,_,a,b,rfl⟩))
     (fun _=>tr_in (P1:=fun d=>d=.str y) (P2:=fun ss=>ss=t.names) (ev_name mh3 rfl) (Ev.ss (P:=fun d=>d=.tup (t.names.map .str)) (pu_tup (hrow rfl) (by simp) rfl) fun d h=>⟨t.names,h,hs t (mem_sigsOf (List.mem_of_getElem? him)),rfl⟩) (by rintro _ _ rfl rfl;exact ⟨_,rfl,hy,rfl⟩)) (by rintro _ _ rfl h;rw [h rfl];rfl))
  ·rintro C K1 K2 ds d rfl hd hpd
   exact ev_name mh4 rfl
  ·rintro ds l rfl
   refine ⟨by simp;exact q1 ‹_›,fun h=>?_⟩
   rw [all2_eq h,range_filter_pN];rfl
 ·rintro _ _ rfl rfl
  have hlen:(ofN its y).length≤its.length:=by
   have:=List.length_filter_le (isN its y) (List.range its.length)
   simpa [ofN] using this
  refine ⟨_,_,rfl,by simp;exact q2 ‹_› ‹_›,by exact qd,?_,rfl⟩
  rw [List.getElem?_map]
  show Option.map _ (ofN its y)[0]? = _
  rw [← List.head?_eq_getElem?,hk];rfl
end Mine
end
section
namespace Mine
variable {w:World} {env:Env} {n:Nat} {N:List Addr} {ρ:Rho} {ad:Addr} {cs:List D} {B B' B'':Nat}
noncomputable abbrev lc2 (elt t1 i1 t2 i2:PySem.Expr) (ifs:List PySem.Expr) (scope:Scope) (pos:Pos):PySem.Expr:=.ListComp elt [⟨t1,i1,ifs,0⟩,⟨t2,i2,[],0⟩] scope pos
noncomputable def emit2 (e i2:PySem.Expr) (ce:Env) (acc:Value):Sem Unit:=do
 let x←eval i2 ce
 standAt i2.pos
 let x←foldedSetIterable i2 ce x
 let _←runOwn (.compStart e 1 (← holding [x] (pyIter x)) acc ce) ce
theorem turn2_0 (elt t1 i1 t2 i2:PySem.Expr) (ifs:List PySem.Expr) (scope:Scope) (pos:Pos) (ce:Env):TurnIs (lc2 elt t1 i1 t2 i2 ifs scope pos) 0 ce t1 ifs i1.pos (emit2 (lc2 elt t1 i1 t2 i2 ifs scope pos) i2 ce):=fun it acc=>by
 simp only [emit2,bind_assoc]
 rfl
theorem turn2_1 (elt t1 i1 t2 i2:PySem.Expr) (ifs:List PySem.Expr) (scope:Scope) (pos:Pos) (ce:Env):TurnIs (lc2 elt t1 i1 t2 i2 ifs scope pos) 1 ce t2 [] i2.pos (fun acc=>do let _←call (.builtin "list.append") [acc,← eval elt ce]):=fun it acc=>by rfl
theorem start1 {elt t1 i1 t2 i2:PySem.Expr} {ifs:List PySem.Expr} {scope:Scope} {pos:Pos} {it acc:Value} {ce:Env} {A:Around} {R:Result→Shared→Prop} {s:Shared}
  (h0:codeAny (model pw w) A (.compLoop (lc2 elt t1 i1 t2 i2 ifs scope pos) 1 it acc ce) R s)
  (h:wpAny (model pw w) A (pyIter it) (fun it' s'=>codeAny (model pw w) A (.compLoop (lc2 elt t1 i1 t2 i2 ifs scope pos) 1 it' acc ce) R s') (notedBy (model pw w) A ce fun x s'=>R (.error x) s') s) :
  codeAny (model pw w) A (.compStart (lc2 elt t1 i1 t2 i2 ifs scope pos) 1 it acc ce) R s:=by
 refine codeAny_of_tree ?_
 show wpAny _ _ ((compStart (lc2 elt t1 i1 t2 i2 ifs scope pos) 1 it acc ce).onRaise (fun x=>do noteFrame x ce;standAt theWindowsPlace)) _ _ s
 refine wpAny_notedAt ?_
 unfold compStart
 show wpAny _ _ (ask >>= _) _ _ s
 refine wpAny_bind (wpAny_askSetting (wpAny_ite ?_))
 split
 ·first
   | exact wpAny_bind (wpAny_pure (wpAny_pure (And.intro rfl h0)))
   | exact wpAny_pure (And.intro rfl h0)
 ·first
   | exact wpAny_bind (wpAny_rule (wpAny_bind (wpAny_standAt (wpAny_bind (wpAny_mono h (fun it' s' h'=>wpAny_pure (And.intro rfl h')) fun _ _ x=>x)))))
   | (refine wpAny_bind (wpAny_rule ?_);show wpAny _ _ (standAt i2.pos >>= _) _ _ s;exact wpAny_bind (wpAny_standAt (wpAny_bind (wpAny_mono h (fun it' s' h'=>wpAny_pure (And.intro rfl h')) fun _ _ x=>x))))
theorem AOK.mark0 {A:Around} (a:AOK n A):A.mark none=A:=by
 have:=a.2.2
 cases A;simp_all [Around.mark]
theorem inner_run {elt t1 i1 t2 i2:PySem.Expr} {ifs:List PySem.Expr} {scope:Scope} {pos:Pos} {ce:Env} {A:Around} {G₀ G:Fz} {s₀ s:Shared} {M:List Addr} {E:Value→Shared→Prop} {K1:Kd} {Dd:Addr} {acc:List D} {ρX:Rho} (ρY:D→Rho) {ds2:List D} {R:D→D→Prop}
  (a:AOK n A) (c:St w ce G₀ s₀ M ((none,K1)::(none,accK w Dd acc)::ρX) G s)
  (hi:Ite w ce n [] ((none,K1)::(none,accK w Dd acc)::ρX) i2 (fun l=>l=ds2)) (hlen:acc.length+ds2.length≤1000000)
  (hasg:∀ K1 K2 K3 A E G₀ s₀ M G s d v,AOK n A→d∈ds2→Rep w.params G v d→St w ce G₀ s₀ M ((none,K1)::(none,K2)::(none,K3)::ρX) G s→
   wpAny (model pw w) A (assign t2 ce v) (fun _ s2=>∃ G2,St w ce G₀ s₀ M ((none,K1)::(none,K2)::(none,K3)::ρY d) G2 s2) E s)
  (hsub:∀ d,ρX.Sublist (ρY d))
  (helt:∀ K1 K2 K3 d,d∈ds2→Ev w ce n [] ((none,K1)::(none,K2)::(none,K3)::ρY d) elt (R d))
  (hs:∀ x,foldedSetIterable i2 ce x=pure x:=by intro _;rfl) :
  wpAny (model pw w) A (emit2 (lc2 elt t1 i1 t2 i2 ifs scope pos) i2 ce (.ref Dd)) (fun _ s2=>∃ G2 tl,All2 R ds2 tl∧St w ce G₀ s₀ M ((none,K1)::(none,accK w Dd (acc++tl))::ρX) G2 s2) E s:=by
 unfold emit2
 refine wpAny_bind (wpAny_mono (hi A G₀ s₀ M G s _ E a noN c fun I ds IF G1 s1 it hp hI y z=>?_) (fun v s1 h=>wpAny_bind (wpAny_standAt (wpAny_bind (by rw [hs];exact wpAny_pure (wpAny_bind (wpAny_holding h)))))) fun _ _ e=>e)
 subst hp
 have hI0:s₀.heap.get? I=none:=Classical.byContradiction fun q=>c.step.dom _ q hI
 have pm:∀ {x y z:Option Str×Kd} {r:Rho},(x::y::z::r).Perm (x::z::y::r):=(List.Perm.swap ..).cons _
 have z1:=z.perm pm
 refine wpAny_bind (wpAny_runOwn ?_)
 rw [a.mark0]
 have key:∀ (Rr:Result→Shared→Prop),(∀ acc' G2 s2,(∃ tl,acc'=acc++tl∧All2 R ds tl)→St w ce G₀ s₀ M ((none,accK w Dd acc')::(none,K1)::ρX) G2 s2→Rr (.ok .next) s2)→
   codeAny (model pw w) A (.compLoop (lc2 elt t1 i1 t2 i2 ifs scope pos) 1 (.ref I) (.ref Dd) ce) Rr s1:=fun Rr dn=>
  comp_loop (turn2_1 elt t1 i1 t2 i2 ifs scope pos ce) (ρc:=(none,K1)::ρX) (fun d=>(none,K1)::ρY d) (fun _=>true) (fun i acc'=>∃ tl,acc'=acc++tl∧All2 R (ds.take i) tl) it hI0 a.2.2
   (fun i acc' ⟨tl,e,h⟩=>by
    have h1:=h.length
    rw [List.length_take] at h1
    rw [e,List.length_append];omega)
   (fun E i acc d v G s hd hinv hr c2=>hasg _ _ _ A E _ _ _ _ _ d v a (List.mem_of_getElem? hd) hr c2)
   (fun d=>(hsub d).cons_cons _)
   (fun E i acc d G s hd hinv c2=>TrsN.run (N:=[]) .none a noN c2)
   (fun i acc d hd hp=>by cases hp)
   (fun E i acc' d G s hd hp ⟨tl,e,h⟩ c2=>by
    have hl:acc'.length≤1000000:=by
     have h1:=h.length
     rw [List.length_take] at h1
     rw [e,List.length_append];omega
    refine wpAny_mono (emit_last a noN c2 (helt _ _ _ d (List.mem_of_getElem? hd)) ((hsub d).cons_cons _) hl) (fun _ s2 ⟨G2,r,hr,c3⟩=>⟨G2,_,⟨tl++[r],by rw [e,List.append_assoc],?_⟩,c3⟩) fun _ _ e=>e
    rw [List.take_add_one,hd];exact h.snoc hr)
   (fun acc' G s ⟨tl,e,h⟩ c2=>dn acc' G s ⟨tl,e,by rw [List.take_length] at h;exact h⟩ c2) G1 s1 acc ⟨[],by simp,by simpa using All2.nil⟩ z1
 have dn:∀ acc' G2 s2,(∃ tl,acc'=acc++tl∧All2 R ds tl)→St w ce G₀ s₀ M ((none,accK w Dd acc')::(none,K1)::ρX) G2 s2→wpAny (model pw w) A (Pure.pure ()) (fun _ s2=>∃ G2 tl,All2 R ds tl∧St w ce G₀ s₀ M ((none,K1)::(none,accK w Dd (acc++tl))::ρX) G2 s2) E s2:=fun acc' G2 s2 ⟨tl,e,h⟩ c2=>wpAny_pure ⟨G2,tl,h,by rw [← e];exact c2.swap⟩
 refine start1 (key _ fun acc' G2 s2 h c2=>dn acc' G2 s2 h c2) (it.self A G1 _ _ _ a.2.2 (z.vars _ (.head _)) (key _ fun acc' G2 s2 h c2=>dn acc' G2 s2 h c2))
end Mine
end
section
namespace Mine
variable {w:World} {env:Env} {n:Nat} {N:List Addr} {ρ:Rho} {ad:Addr} {cs:List D} {B B' B'':Nat}
theorem evl_comp2 {elt t1 i1 t2 i2:PySem.Expr} {ifs:List PySem.Expr} {scope:Scope} {pos:Pos} {cl:List (Str×Addr)} {ds:List D} (ds2:D→List D) (f:D→D→D) (ρc:Rho) (ρd:D→Rho) (ρY:D→D→Rho) (p:D→Bool)
  (hi:Ite w env n [] ρ i1 (fun l=>l=ds)) (hclos:closureFor scope env=pure cl) (hcell:∀ y∈scope.names,y.2≠.cell) (hkind:scope.kind=.function) (hnames:∀ y∈scope.names,y.2=.local→scope.names.lookup y.1=some .local)
  (hcl:∀ y cc,cl.lookup y=some cc→∃ y',env.cells.lookup y'=some cc) (hclp:env.cells.Pairwise (fun x y=>x.2≠y.2)→cl.Pairwise fun x y=>x.2≠y.2)
  (hcap:Cap [] env scope cl ρ ρc)
  (hasg:∀ C K1 K2 A E G₀ s₀ G s d v,AOK n A→d∈ds→Rep w.params G v d→St w (compEnvC scope cl C env) G₀ s₀ [] ((none,K1)::(none,K2)::ρc) G s→
   wpAny (model pw w) A (assign t1 (compEnvC scope cl C env) v) (fun _ s2=>∃ G2,St w (compEnvC scope cl C env) G₀ s₀ [] ((none,K1)::(none,K2)::ρd d) G2 s2) E s)
  (hsub:∀ d,ρc.Sublist (ρd d))
  (htest:∀ C K1 K2 d,d∈ds→TrsN w (compEnvC scope cl C env) n [] ((none,K1)::(none,K2)::ρd d) ifs (p d))
  (hi2:∀ C K1 K2 d,d∈ds→p d=true→Ite w (compEnvC scope cl C env) n [] ((none,K1)::(none,K2)::ρd d) i2 (fun l=>l=ds2 d))
  (hasg2:∀ C K1 K2 K3 A E G₀ s₀ M G s d e v,AOK n A→d∈ds→e∈ds2 d→Rep w.params G v e→St w (compEnvC scope cl C env) G₀ s₀ M ((none,K1)::(none,K2)::(none,K3)::ρd d) G s→
   wpAny (model pw w) A (assign t2 (compEnvC scope cl C env) v) (fun _ s2=>∃ G2,St w (compEnvC scope cl C env) G₀ s₀ M ((none,K1)::(none,K2)::(none,K3)::ρY d e) G2 s2) E s)
  (hsub2:∀ d e,(ρd d).Sublist (ρY d e))
  (helt:∀ C K1 K2 K3 d e,d∈ds→e∈ds2 d→Ev w (compEnvC scope cl C env) n [] ((none,K1)::(none,K2)::(none,K3)::ρY d e) elt (fun r=>r=f d e))
  (hlen:ds.length≤1000) (hlen2:∀ d∈ds,(ds2 d).length≤900)
  (hs:∀ x,foldedSetIterable i1 env x=pure x:=by intro _;rfl) (hs2:∀ C x,foldedSetIterable i2 (compEnvC scope cl C env) x=pure x:=by intro _ _;rfl) :
  EvL w env n [] ρ (lc2 elt t1 i1 t2 i2 ifs scope pos) (fun l=>l=(ds.filter p).flatMap fun d=>(ds2 d).map (f d)):=fun A G₀ s₀ M G s Q E a b c k=>by
 show wpAny _ _ (eval (.ListComp elt [⟨t1,i1,ifs,0⟩,⟨t2,i2,[],0⟩] scope pos) env) _ _ _
 rw [eval_ListComp]
 have fl:∀ m:List D,(∀ d∈m,d∈ds)→(m.flatMap fun d=>(ds2 d).map (f d)).length≤900 * m.length:=by
  intro m
  induction m with
  | nil=>intro _;simp
  | cons x r ih=>
   intro h
   have h1:=ih fun d hd=>h d (.tail _ hd)
   have h2:=hlen2 x (h x (.head _))
   rw [List.flatMap_cons,List.length_append,List.length_map,List.length_cons]
   omega
 have inv:∀ i,(((ds.take i).filter p).flatMap fun d=>(ds2 d).map (f d)).length≤900000:=fun i=>by
  have h1:=fl ((ds.take i).filter p) fun d hd=>List.mem_of_mem_take (List.mem_filter.mp hd).1
  have h2:=List.length_filter_le p (ds.take i)
  rw [List.length_take] at h2
  omega
 refine comp_core (gs:=[⟨t2,i2,[],0⟩]) (P:=fun l=>l=(ds.filter p).flatMap fun d=>(ds2 d).map (f d)) ρc a b c hi hclos hcell hkind hnames hcl (hclp c.apart) hcap (fun _ h=>nomatch h) (fun C Dd I ds' IF G1 s1 Rr it hp hI c1 dn=>?_)
  (fun C Dd acc G2 s2 h1 h2 h3 h4 h5=>comp_val (P:=fun l=>l=(ds.filter p).flatMap fun d=>(ds2 d).map (f d)) h1 h2 h3 h4 h5 (Classical.byContradiction fun q=>c.step.dom _ q h3) k) hs
 subst hp
 refine comp_loop (turn2_0 elt t1 i1 t2 i2 ifs scope pos _) ρd p (fun i acc=>acc=((ds'.take i).filter p).flatMap fun d=>(ds2 d).map (f d)) it hI a.2.2 (fun i acc hinv=>?_) (fun E i acc d v G s hd hinv hr c2=>?_) hsub (fun E i acc d G s hd hinv c2=>?_) (fun i acc d hd hpd hinv=>?_) (fun E i acc d G s hd hpd hinv c2=>?_) (fun acc G s hinv c2=>?_) G1 s1 [] (by simp) c1
 ·have:=inv i;rw [hinv];exact q1 ‹_›
 ·exact hasg C _ _ A E _ _ _ _ d v a (List.mem_of_getElem? hd) hr c2
 ·exact (htest C _ _ d (List.mem_of_getElem? hd)).run a (fun _ h=>h) c2
 ·rw [hinv,List.take_add_one,hd,List.filter_append];simp [hpd]
 ·have hm:=List.mem_of_getElem? hd
  refine wpAny_mono (inner_run (ρY d) (ds2:=ds2 d) (R:=fun e r=>r=f d e) a c2 (hi2 C _ _ d hm hpd) (by have:=inv i;have:=hlen2 d hm;rw [hinv];exact q8 ‹_› ‹_›) (fun K1 K2 K3 A E G₀ s₀ M G s e v a he hr c=>hasg2 C K1 K2 K3 A E G₀ s₀ M G s d e v a hm he hr c) (hsub2 d) (fun K1 K2 K3 e he=>helt C K1 K2 K3 d e hm he) (hs2 C)) (fun _ s2 ⟨G2,tl,ht,c3⟩=>⟨G2,_,?_,c3.sub (((hsub d).cons_cons _).cons_cons _)⟩) fun _ _ e=>e
  rw [ht.map,hinv,List.take_add_one,hd,List.filter_append];simp [hpd]
 ·exact dn acc G s (by rw [List.take_length] at hinv;exact hinv) c2
noncomputable def envRw (L:Addr):Env:=callEnvC (lawFd 13 "_law_rows" 289) L 290
noncomputable def rowD (p:Str×Sg):D:=.tup [.str p.1,encS p.2]
noncomputable def names2:D→List D
 | .tup (_::_ :: .tup l::_)=>l
 | _=>[]
noncomputable def isSigD:D→Bool
 | D.tup (D.str x::_)=>x==("sig" : Str)
 | _=>false
theorem rows_flat (its:List Im):(((its.map encI).filter isSigD).flatMap fun d=>(names2 d).map fun e=>D.tup [e,d])=(rowsS (sigsOf its)).map rowD:=by
 induction its with
 | nil=>rfl
 | cons i r ih=>
  cases i with
  | sig t=>
   rw [List.map_cons,List.filter_cons,if_pos (show isSigD (encI (.sig t))=true from rfl),List.flatMap_cons,ih]
   show (t.names.map D.str).map _++_=((t.names.map fun n=>(n,t))++rowsS (sigsOf r)).map rowD
   rw [List.map_append,List.map_map,List.map_map];rfl
  | opn o=>
   rw [List.map_cons,List.filter_cons,show isSigD (encI (.opn o))=false from rfl]
   exact ih
set_option maxHeartbeats 400000 in
theorem c_rows {its:List Im} (hl:its.length≤1000) (hn:∀ t∈sigsOf its,t.names.length≤900) {G:Fz} {s:Shared} {vs:List Value} (i:Inn G s.heap) (b:Bs w G) (r:RepL w.params G vs [.lst (its.map encI)]) :
  Op w (n+1) [] G s (call (.ref 290) vs) (KL w (fun l=>l=(rowsS (sigsOf its)).map rowD) s):=by
 refine op_dat ff_rows ["items"] (bind1 fun _=>rfl) (by decide) (by decide +kernel) i b r rfl ?_
 rintro env A s₁ Q E rfl a c kk
 change St w (envRw _) _ _ _ _ _ _ at c
 change wpAny _ _ (execs _ (envRw _)) _ _ _
 have hdom:=c.step.dom
 generalize s.heap.objs.size=L at c ⊢
 have c':St w (envRw L) G s [] [(some ("items" : Str),dat w.params (.lst (its.map encI)))] G s₁:=c
 refine st_ret a noN c' (K:=KL w (fun l=>l=(rowsS (sigsOf its)).map rowD)) ?_ fun v G' s' y z q=>kk (.ret v) G' s' z.step (q.early hdom)
 have hm:∀ d∈its.map encI,∃ im∈its,d=encI im:=fun d hd=>let ⟨im,h1,h2⟩:=List.mem_map.mp hd;⟨im,h1,h2.symm⟩
 refine (evl_comp2 (ds:=its.map encI) (cl:=[]) names2 (fun d e=>.tup [e,d]) [] (fun d=>[(some ("item" : Str),dat w.params d)]) (fun d e=>[(some ("item" : Str),dat w.params d),(some ("name" : Str),dat w.params e)]) isSigD
  (ite_lst (ev_name (d:=.lst (its.map encI)) (.head _) rfl) fun d h=>⟨_,h,rfl⟩) rfl (by decide) rfl (by decide) (fun _ _ h=>nomatch h) (fun _=>.nil) (.drop .nil) ?_ (fun _=>List.nil_sublist _) ?_ ?_ ?_ (fun d e=>List.sublist_append_left [_] [_]) ?_ (by simp;exact q1 ‹_›) ?_).mono fun _ _ _ _ _ ⟨a',vs',m',l',h1,h2,h3,h4,h5,h6⟩=>⟨a',vs',m',l',h1,h2,h3,h4,h5,by rw [h6,rows_flat]⟩
 ·rintro C K1 K2 A E G₀ s₀ G s d v aa hd hr cc
  exact st_name cc hr (.skip (fun h=>nomatch h) (.skip (fun h=>nomatch h) .new)) rfl (.inl rfl) fun s' c'=>⟨_,c'⟩
 ·rintro C K1 K2 d hd
  obtain ⟨im,hi,rfl⟩:=hm d hd
  cases im with
  | sig t=>exact .one (tr_eq_str (P1:=fun d=>d=.str "sig") (P2:=fun d=>d=.str "sig") (pu_tup (ev_name (d:=encI (.sig t)) mh2 rfl) (by simp) rfl) ev_str (by exact fun _ _ a b=>⟨_,_,a,b,rfl⟩))
  | opn o=>exact .one (tr_eq_str (P1:=fun d=>d=.str "open") (P2:=fun d=>d=.str "sig") (pu_tup (ev_name (d:=encI (.opn o)) mh2 rfl) (by simp) rfl) ev_str (by exact fun _ _ a b=>⟨_,_,a,b,rfl⟩))
 ·rintro C K1 K2 d hd hp
  obtain ⟨im,hi,rfl⟩:=hm d hd
  cases im with
  | sig t=>exact ite_tup (pu_tup (d:=.tup (t.names.map .str)) (ev_name (d:=encI (.sig t)) mh2 rfl) (by simp) rfl) fun d h=>⟨_,h,rfl⟩
  | opn o=>cases hp
 ·rintro C K1 K2 K3 A E G₀ s₀ M G s d e v aa hd he hr cc
  exact st_name cc hr (.skip (fun h=>nomatch h) (.skip (fun h=>nomatch h) (.skip (fun h=>nomatch h) (.skip (by decide) .new)))) rfl (.inl rfl) fun s' c'=>⟨_,c'⟩
 ·rintro C K1 K2 K3 d e hd he
  exact ev_tupQ (mq (ev_name mh4 rfl) (mq (ev_name mh3 rfl) mq_nil))
 ·rintro d hd
  obtain ⟨im,hi,rfl⟩:=hm d hd
  cases im with
  | sig t=>show (t.names.map D.str).length≤900;rw [List.length_map];exact hn t (mem_sigsOf hi)
  | opn o=>exact Nat.zero_le _
end Mine
end
section
namespace Mine
noncomputable def okS (y:Str):Prop:=PyData.strOk y=true∧y.length≤1000
theorem okS_pool (k:Nat) (h:k < 4):okS (poolN k).1∧okS (poolN k).2:=by
 unfold okS
 exact (by decide +kernel:∀ k,k < 4→(PyData.strOk (poolN k).1=true∧(poolN k).1.length≤1000)∧(PyData.strOk (poolN k).2=true∧(poolN k).2.length≤1000)) k h
theorem okS_A:okS "A":=⟨by decide +kernel,by decide⟩
theorem okS_C:okS "C":=⟨by decide +kernel,by decide⟩
theorem okS_F:okS "F":=⟨by decide +kernel,by decide⟩
theorem IsSig.parOk {k:Nat} {t:Sg} (h:IsSig k t):t.parent = ""∨t.parent = "A"∨t.parent = "C":=by
 have:=List.mem_of_mem_take h.par
 simpa using this
theorem IsSig.supOk' {k:Nat} {t:Sg} (h:IsSig k t):t.sups.length≤2∧∀ y∈t.sups,okS y:=by
 have:=h.sups
 split at this
 ·rw [this];exact ⟨by simp,fun _ h=>nomatch h⟩
 ·simp only [List.mem_cons,List.not_mem_nil,or_false] at this
  rcases this with e | e | e | e<;>rw [e]
  ·exact ⟨by simp,fun y hy=>by rw [List.mem_singleton.mp hy];exact okS_A⟩
  ·exact ⟨by simp,fun y hy=>by rw [List.mem_singleton.mp hy];exact okS_C⟩
  ·refine ⟨by simp,fun y hy=>?_⟩
   simp only [List.mem_cons,List.not_mem_nil,or_false] at hy
   rcases hy with e | e<;>rw [e]
   ·exact okS_F
   ·exact okS_A
  ·refine ⟨by simp,fun y hy=>?_⟩
   simp only [List.mem_cons,List.not_mem_nil,or_false] at hy
   rcases hy with e | e<;>rw [e]
   ·exact okS_C
   ·exact okS_F
theorem fN_len {x:Str} {k j:Nat} (hx:x.length=1) (hk:k < 4) (hj:j < 4):(fN x k j).length=3:=by
 unfold fN
 rw [Str.length_append,Str.length_append,tS_len k hk,tS_len j hj,hx]
theorem IsSig.tame {k:Nat} {t:Sg} (hk:k < 4) (h:IsSig k t):TameS t where
 names:=by
  obtain ⟨h1,h2⟩:=okS_pool k hk
  rcases h.names with e | e<;>rw [e]
  ·exact ⟨by simp,fun y hy=>by rw [List.mem_singleton.mp hy];exact h1⟩
  ·refine ⟨by simp,fun y hy=>?_⟩
   simp only [List.mem_cons,List.not_mem_nil,or_false] at hy
   rcases hy with e | e<;>rw [e]
   ·exact h1
   ·exact h2
 sups:=by have:=h.supOk'.1;exact q1 ‹_›
 up:=fun y hy=>by
  unfold Sg.up at hy
  rcases List.mem_append.mp hy with hy | hy
  ·split at hy
   ·cases hy
   ·rename_i hp
    rw [List.mem_singleton.mp hy]
    rcases h.parOk with e | e | e
    ·exact (hp e).elim
    ·rw [e];exact okS_A
    ·rw [e];exact okS_C
  ·exact h.supOk'.2 y hy
 decls:=by
  obtain ⟨h1,h2⟩:=h.decls
  refine ⟨by exact q1 ‹_›,fun d hd=>?_⟩
  obtain ⟨j,hj⟩:=List.getElem?_of_mem hd
  have hjl:=(List.getElem?_eq_some_iff.mp hj).1
  obtain ⟨_,h3⟩:=h2 j d hj
  rw [h3]
  have f1:(fN "f" k j).length=3:=fN_len (by decide) hk (by exact q2 ‹_› ‹_›)
  have g1:(fN "g" k j).length=3:=fN_len (by decide) hk (by exact q2 ‹_› ‹_›)
  split
  ·refine ⟨by simp,fun f hf=>?_⟩
   simp only [List.mem_cons,List.not_mem_nil,or_false] at hf
   rcases hf with e | e<;>rw [e]<;>exact q5 ‹_›
  ·refine ⟨by simp,fun f hf=>?_⟩
   rw [List.mem_singleton.mp hf];exact q5 ‹_›
theorem sigsOf_model (ts:List Sg) (o:Opn):sigsOf (ts.map .sig++[.opn o])=ts∧opnsOf (ts.map .sig++[.opn o])=[o]:=by
 induction ts with
 | nil=>exact ⟨rfl,rfl⟩
 | cons t ts ih=>exact ⟨congrArg (t :: ·) ih.1,ih.2⟩
theorem IsModel.tame {its:List Im} (h:IsModel its):Tame its:=by
 obtain ⟨t0,t1,t2,t3,ts,s0,s1,s2,s3,q,rfl⟩:=h
 obtain ⟨e1,e2⟩:=sigsOf_model ts stdO
 refine ⟨?_,fun t ht=>?_,fun o ho=>?_⟩
 ·have:=q.length_eq
  simp at this ⊢;exact q5 ‹_›
 ·rw [e1] at ht
  have:=q.mem_iff.mp ht
  simp only [List.mem_cons,List.not_mem_nil,or_false] at this
  rcases this with e | e | e | e<;>rw [e]
  ·exact s0.tame (by decide)
  ·exact s1.tame (by decide)
  ·exact s2.tame (by decide)
  ·exact s3.tame (by exact Nat.le_refl _)
 ·rw [e2] at ho
  rw [List.mem_singleton.mp ho]
  exact ⟨by decide,by decide,fun a ha=>by rw [List.mem_singleton.mp ha];decide,by decide +kernel,by decide⟩
end Mine
end
section
namespace Mine
noncomputable def rk (x:Str):Nat:=if x = "A"∨x = "B" then 0 else if x = "C"∨x = "D" then 1 else if x = "F"∨x = "G" then 2 else 3
theorem rk_pool (k:Nat) (h:k < 4):rk (poolN k).1=k∧rk (poolN k).2=k∧(poolN k).1≠(poolN k).2:=
 (by decide +kernel:∀ k,k < 4→rk (poolN k).1=k∧rk (poolN k).2=k∧(poolN k).1≠(poolN k).2) k h
theorem IsSig.rk {k:Nat} {t:Sg} (hk:k < 4) (h:IsSig k t):∀ x∈t.names,Mine.rk x=k:=fun x hx=>by
 obtain ⟨h1,h2,_⟩:=rk_pool k hk
 rcases h.names with e | e<;>rw [e] at hx
 ·rw [List.mem_singleton.mp hx];exact h1
 ·simp only [List.mem_cons,List.not_mem_nil,or_false] at hx
  rcases hx with e | e<;>rw [e]
  ·exact h1
  ·exact h2
theorem IsSig.nodup {k:Nat} {t:Sg} (hk:k < 4) (h:IsSig k t):t.names.Nodup:=by
 obtain ⟨_,_,h3⟩:=rk_pool k hk
 rcases h.names with e | e<;>rw [e]<;>simp [h3]
theorem dupIn_of {seen ns:List Str} (h1:∀ x∈ns,x∉seen) (h2:ns.Nodup):¬ dupIn seen ns:=by
 induction ns generalizing seen with
 | nil=>exact id
 | cons x ns ih=>
  have h2:=List.nodup_cons.mp h2
  refine fun h=>h.elim (h1 x (.head _)) (ih (fun y hy hm=>?_) h2.2)
  rcases List.mem_append.mp hm with hm | hm
  ·exact h1 y (.tail _ hy) hm
  ·rw [List.mem_singleton.mp hm] at hy;exact h2.1 hy
theorem mem_keys {ts:List Sg} {x:Str}:x∈keys (rowsS ts)↔∃ t∈ts,x∈t.names:=by
 unfold keys rowsS
 simp only [List.mem_map,List.mem_flatMap]
 constructor
 ·rintro ⟨p,⟨t,ht,n,hn,rfl⟩,rfl⟩
  exact ⟨t,ht,hn⟩
 ·rintro ⟨t,ht,hx⟩
  exact ⟨_,⟨t,ht,x,hx,rfl⟩,rfl⟩
structure Four (ts:List Sg):Prop where
 sig:∀ t∈ts,∃ k:Nat,k < 4∧IsSig k t
 apart:ts.Pairwise fun a b=>∀ x∈a.names,x∉b.names
 has:∀ k:Nat,k < 4→∃ t∈ts,IsSig k t
theorem IsModel.four {its:List Im} (h:IsModel its):Four (sigsOf its)∧opnsOf its=[stdO]:=by
 obtain ⟨t0,t1,t2,t3,ts,s0,s1,s2,s3,q,rfl⟩:=h
 obtain ⟨e1,e2⟩:=sigsOf_model ts stdO
 rw [e1]
 have dj:∀ {i j:Nat} {a b:Sg},i < 4→j < 4→i≠j→IsSig i a→IsSig j b→∀ x∈a.names,x∉b.names:=fun hi hj hne ha hb x h1 h2=>hne ((ha.rk hi x h1).symm.trans (hb.rk hj x h2))
 refine ⟨⟨fun t ht=>?_,?_,fun k hk=>?_⟩,e2⟩
 ·have:=q.mem_iff.mp ht
  simp only [List.mem_cons,List.not_mem_nil,or_false] at this
  rcases this with e | e | e | e<;>rw [e]
  ·exact ⟨0,by decide,s0⟩
  ·exact ⟨1,by decide,s1⟩
  ·exact ⟨2,by decide,s2⟩
  ·exact ⟨3,by exact Nat.le_refl _,s3⟩
 ·refine (q.pairwise_iff (R:=fun (a b:Sg)=>∀ x∈a.names,x∉b.names) fun {a b} h x h1 h2=>h x h2 h1).mpr ?_
  simp only [List.pairwise_cons,List.mem_cons,List.not_mem_nil,or_false,forall_eq_or_imp,forall_eq]
  exact ⟨⟨dj (i:=0) (j:=1) (by decide) (by decide) (by decide) s0 s1,dj (i:=0) (j:=2) (by decide) (by decide) (by decide) s0 s2,dj (i:=0) (j:=3) (by decide) (by exact Nat.le_refl _) (by decide) s0 s3⟩,
   ⟨dj (i:=1) (j:=2) (by decide) (by decide) (by decide) s1 s2,dj (i:=1) (j:=3) (by decide) (by exact Nat.le_refl _) (by decide) s1 s3⟩,dj (i:=2) (j:=3) (by decide) (by exact Nat.le_refl _) (by decide) s2 s3,(fun _ h=>nomatch h),.nil⟩
 ·match k,hk with
  | 0,_=>exact ⟨t0,q.mem_iff.mpr (by simp),s0⟩
  | 1,_=>exact ⟨t1,q.mem_iff.mpr (by simp),s1⟩
  | 2,_=>exact ⟨t2,q.mem_iff.mpr (by simp),s2⟩
  | 3,_=>exact ⟨t3,q.mem_iff.mpr (by simp),s3⟩
theorem Four.good {ts:List Sg} (h:Four ts):Good BadSig ts:=fun pre y post e hb=>by
 obtain ⟨k,hk,hs⟩:=h.sig y (by rw [e];simp)
 rcases hb with hb | ⟨_,hb⟩
 ·refine dupIn_of (fun x hx hm=>?_) (hs.nodup hk) hb
  obtain ⟨t,ht,hxt⟩:=mem_keys.mp hm
  have:=h.apart
  rw [e,List.pairwise_append] at this
  exact this.2.2 t ht y (.head _) x hxt hx
 ·rw [hs.abs] at hb;cases hb
end Mine
end
section
namespace Mine
theorem least {α:Type} (r:α→Nat) {l:List α} (h:l≠[]):∃ p∈l,∀ q∈l,r p≤r q:=by
 induction l with
 | nil=>exact (h rfl).elim
 | cons x l ih=>
  by_cases hl:l=[]
  ·subst hl;exact ⟨x,.head _,fun q hq=>by rw [List.mem_singleton.mp hq];exact Nat.le_refl _⟩
  ·obtain ⟨p,hp,h⟩:=ih hl
   rcases Nat.le_total (r x) (r p) with q | q
   ·exact ⟨x,.head _,fun z hz=>(List.mem_cons.mp hz).elim (fun e=>by rw [e];exact Nat.le_refl _) fun hz=>Nat.le_trans q (h z hz)⟩
   ·exact ⟨p,.tail _ hp,fun z hz=>(List.mem_cons.mp hz).elim (fun e=>by rw [e];exact q) fun hz=>h z hz⟩
theorem toldF_all {rows:List (Str×Sg)} (r:Str→Nat) (hup:∀ p∈rows,∀ u∈p.2.up,r u < r p.1∧u∈keys rows) (n:Nat) (found:List Str) (left:List (Str×Sg)) (h:left.length≤n) (hl:∀ p∈left,p∈rows) (ha:∀ p∈rows,p∈left∨p.1∈found):(toldF n found left).2=[]:=by
 induction n generalizing found left with
 | zero=>rw [List.length_eq_zero_iff.mp (Nat.le_zero.mp h)];rfl
 | succ n ih=>
  unfold toldF
  cases hf:left.findIdx? (fun p=>ready found p.2) with
  | none=>
   show left=[]
   refine Classical.byContradiction fun hne=>?_
   obtain ⟨p,hp,hmin⟩:=least (fun p:Str×Sg=>r p.1) hne
   have hnr:=List.findIdx?_eq_none_iff.mp hf p hp
   have:ready found p.2=true:=by
    unfold ready
    rw [List.all_eq_true]
    intro u hu
    have h1:=hup p (hl p hp) u hu
    obtain ⟨q,hq,rfl⟩:=List.mem_map.mp h1.2
    exact decide_eq_true ((ha q hq).elim (fun h3=>absurd h1.1 (Nat.not_lt.mpr (hmin q h3))) id)
   rw [this] at hnr;cases hnr
  | some k=>
   have hk:k < left.length:=(List.findIdx?_eq_some_iff_getElem.mp hf).1
   refine ih _ _ (by rw [List.length_eraseIdx,if_pos hk];exact Nat.sub_le_of_le_add h) (fun p hp=>hl p (List.mem_of_mem_eraseIdx hp)) fun p hp=>?_
   rcases ha p hp with h1 | h1
   ·by_cases e:left[k]? = some p
    ·right;rw [e];simp
    ·left
     obtain ⟨j,hj⟩:=List.getElem?_of_mem h1
     rw [List.mem_eraseIdx_iff_getElem?]
     exact ⟨j,fun q=>e (q▸hj),hj⟩
   ·right;exact List.mem_append_left _ h1
theorem told_all {rows:List (Str×Sg)} (r:Str→Nat) (hup:∀ p∈rows,∀ u∈p.2.up,r u < r p.1∧u∈keys rows):(told rows).2=[]:=
 toldF_all r hup _ _ _ (Nat.le_refl _) (fun _ h=>h) fun _ h=>.inl h
theorem Four.key {ts:List Sg} (h:Four ts) {k:Nat} (hk:k < 4):(poolN k).1∈keys (rowsS ts):=by
 obtain ⟨t,ht,hs⟩:=h.has k hk
 refine mem_keys.mpr ⟨t,ht,?_⟩
 rcases hs.names with e | e<;>rw [e]<;>simp
theorem mem_rows {ts:List Sg} {p:Str×Sg}:p∈rowsS ts↔p.2∈ts∧p.1∈p.2.names:=by
 unfold rowsS
 simp only [List.mem_flatMap,List.mem_map]
 constructor
 ·rintro ⟨t,ht,n,hn,rfl⟩;exact ⟨ht,hn⟩
 ·rintro ⟨h1,h2⟩;exact ⟨p.2,h1,p.1,h2,rfl⟩
theorem IsSig.up_of {k:Nat} {t:Sg} (hk:k < 4) (h:IsSig k t) {u:Str} (hu:u∈t.up):Mine.rk u < k∧(u = "A"∨u = "C"∨u = "F"):=by
 unfold Sg.up at hu
 rcases List.mem_append.mp hu with hu | hu
 ·split at hu
  ·cases hu
  ·rename_i hp
   rw [List.mem_singleton.mp hu]
   have:=h.par
   match k,hk with
   | 0,_=>simp at this;exact (hp this).elim
   | 1,_=>simp at this;rcases this with e | e;exact (hp e).elim;rw [e];decide +kernel
   | 2,_=>simp at this;rcases this with e | e | e;exact (hp e).elim;all_goals (rw [e];decide +kernel)
   | 3,_=>simp at this;exact (hp this).elim
 ·have:=h.sups
  split at this
  ·rw [this] at hu;cases hu
  ·have hk3:k=3:=by omega
   subst hk3
   simp only [List.mem_cons,List.not_mem_nil,or_false] at this
   rcases this with e | e | e | e<;>rw [e] at hu<;>simp only [List.mem_cons,List.not_mem_nil,or_false] at hu
   ·rw [hu];decide +kernel
   ·rw [hu];decide +kernel
   ·rcases hu with e | e<;>rw [e]<;>decide +kernel
   ·rcases hu with e | e<;>rw [e]<;>decide +kernel
theorem Four.up {ts:List Sg} (h:Four ts):∀ p∈rowsS ts,∀ u∈p.2.up,Mine.rk u < Mine.rk p.1∧u∈keys (rowsS ts):=fun p hp u hu=>by
 obtain ⟨h1,h2⟩:=mem_rows.mp hp
 obtain ⟨k,hk,hs⟩:=h.sig _ h1
 obtain ⟨h3,h4⟩:=hs.up_of hk hu
 rw [hs.rk hk _ h2]
 refine ⟨h3,?_⟩
 rcases h4 with e | e | e<;>rw [e]
 ·exact h.key (k:=0) (by decide)
 ·exact h.key (k:=1) (by decide)
 ·exact h.key (k:=2) (by decide)
theorem Four.ring {ts:List Sg} (h:Four ts):(told (rowsS ts)).2=[]:=told_all Mine.rk h.up
theorem Four.row {ts:List Sg} (h:Four ts):Good (BadRow (rowsS ts)) (rowsS ts):=fun pre p post e hb=>by
 have hp:p∈rowsS ts:=by rw [e];simp
 rcases hb with ⟨u,hu,hn⟩ | ⟨hpar,q,hq,hs⟩
 ·exact hn (h.up p hp u hu).2
 ·obtain ⟨h1,h2⟩:=mem_rows.mp hp
  obtain ⟨k,hk,hs1⟩:=h.sig _ h1
  obtain ⟨h3,h4⟩:=mem_rows.mp (mem_of_look hq)
  obtain ⟨k2,hk2,hs2⟩:=h.sig _ h3
  have hr:=hs2.rk hk2 _ h4
  have hlt:k2 < 3:=by
   have hr:Mine.rk p.2.parent=k2:=hr
   rcases hs1.parOk with e | e | e
   ·exact (hpar e).elim
   ·rw [e] at hr;have:Mine.rk "A" = 0:=by decide +kernel
    omega
   ·rw [e] at hr;have:Mine.rk "C" = 1:=by decide +kernel
    omega
  have:=hs2.sups
  rw [if_pos hlt] at this
  exact hs this
end Mine
end
section
namespace Mine
theorem Four.opn {ts:List Sg} (h:Four ts):Good (BadOpn (rowsS ts)) [stdO]:=fun pre o post e hb=>by
 have hp:pre=[]∧o=stdO:=by
  cases pre with
  | nil=>simp at e;exact ⟨rfl,e.1.symm⟩
  | cons x pre=>simp at e
 obtain ⟨rfl,rfl⟩:=hp
 rcases hb with hb | hb | ⟨x,hx,hn⟩ | ⟨q,hq,_⟩
 ·exact hb rfl
 ·exact hb rfl
 ·rw [List.mem_singleton.mp hx] at hn
  exact hn (h.key (k:=0) (by decide))
 ·cases hq
theorem numbered_pairs {g:Nat} {l:List (Str×Dc)}:(numbered g l).map (fun f=>(f.name,f.field))=l.flatMap fun p=>p.2.fields.map fun x=>(p.1,x):=by
 induction l generalizing g with
 | nil=>rfl
 | cons p r ih=>
  obtain ⟨n,d⟩:=p
  rw [numbered,List.map_append,List.map_map,ih,List.flatMap_cons]
  rfl
theorem fN_inj {k j j':Nat} (hk:k < 4) (hj:j < 2) (hj':j' < 2):(fN "f" k j=fN "f" k j'→j=j')∧(fN "g" k j=fN "g" k j'→j=j')∧fN "f" k j≠fN "g" k j':=by
 have H:∀ k,k < 4→∀ j,j < 2→∀ j',j' < 2→(fN "f" k j=fN "f" k j'→j=j')∧(fN "g" k j=fN "g" k j'→j=j')∧fN "f" k j≠fN "g" k j':=by decide +kernel
 exact H k hk j hj j' hj'
theorem Four.above {ts:List Sg} (h:Four ts) {y o:Str} {t:Sg} (ht:look (rowsS ts) y=some t) (ha:Above (rowsS ts) y o):Mine.rk o < Mine.rk y:=by
 have step:∀ z u,u∈upOf (rowsS ts) z→Mine.rk u < Mine.rk z:=fun z u hu=>by
  unfold upOf at hu
  cases hz:look (rowsS ts) z with
  | none=>rw [hz] at hu;cases hu
  | some q=>rw [hz] at hu;exact (h.up (z,q) (mem_of_look hz) u hu).1
 unfold Above at ha
 generalize hw:upOf (rowsS ts) y=ws at ha
 induction ha with
 | here h1=>exact step y _ (hw▸h1)
 | on h1 h2 ih=>exact Nat.lt_trans (step _ _ h2) ih
theorem keys_erase {left:List (Str×Sg)} {k:Nat} {p:Str×Sg} (h:left[k]? = some p):(p.1::keys (left.eraseIdx k)).Perm (keys left):=by
 induction left generalizing k with
 | nil=>rw [List.getElem?_nil] at h;cases h
 | cons q r ih=>
  cases k with
  | zero=>cases h;exact .refl _
  | succ k=>
   show (p.1::q.1::keys (r.eraseIdx k)).Perm (q.1::keys r)
   exact (List.Perm.swap q.1 p.1 _).trans ((ih (k:=k) h).cons _)
theorem toldF_perm (n:Nat) (found:List Str) (left:List (Str×Sg)):((toldF n found left).1++keys (toldF n found left).2).Perm (found++keys left):=by
 induction n generalizing found left with
 | zero=>exact .refl _
 | succ n ih=>
  unfold toldF
  cases hf:left.findIdx? (fun p=>ready found p.2) with
  | none=>exact .refl _
  | some k=>
   have hk:=(List.findIdx?_eq_some_iff_getElem.mp hf).1
   have e:left[k]? = some left[k]:=List.getElem?_eq_getElem hk
   refine (ih _ _).trans ?_
   rw [e]
   show ((found++[left[k].1])++keys (left.eraseIdx k)).Perm _
   rw [List.append_assoc]
   exact (keys_erase e).append_left _
theorem Four.order {ts:List Sg} (h:Four ts):(told (rowsS ts)).1.Perm (keys (rowsS ts)):=by
 have:=toldF_perm (rowsS ts).length [] (rowsS ts)
 have e:(toldF (rowsS ts).length [] (rowsS ts)).2=[]:=h.ring
 rw [e] at this
 simpa [told,keys] using this
end Mine
end
section
namespace Mine
theorem pairs_one (n:Str) (ds:List Dc):((ds.map fun d=>(n,d)).flatMap fun p:Str×Dc=>p.2.fields.map fun x=>(p.1,x))=(ds.flatMap (·.fields)).map fun x=>(n,x):=by
 induction ds with
 | nil=>rfl
 | cons d ds ih=>rw [List.map_cons,List.flatMap_cons,ih,List.flatMap_cons,List.map_append]
theorem pairs_nodup {rows:List (Str×Sg)} (hd:∀ n t,look rows n=some t→(t.decls.flatMap (·.fields)).Nodup) {order:List Str} (h:order.Nodup) :
  ((declsOf rows order).flatMap fun p=>p.2.fields.map fun x=>(p.1,x)).Nodup∧∀ q∈(declsOf rows order).flatMap (fun p=>p.2.fields.map fun x=>(p.1,x)),q.1∈order:=by
 induction order with
 | nil=>exact ⟨.nil,fun _ h=>nomatch h⟩
 | cons n r ih=>
  have h1:=List.nodup_cons.mp h
  have ih:=ih h1.2
  have e:declsOf rows (n::r)=(match look rows n with | some t=>t.decls.map (n,·) | none=>[])++declsOf rows r:=rfl
  rw [e,List.flatMap_append]
  cases hl:look rows n with
  | none=>exact ⟨ih.1,fun q hq=>.tail _ (ih.2 q hq)⟩
  | some t=>
   dsimp only
   rw [pairs_one]
   have hq:∀ q∈(t.decls.flatMap (·.fields)).map (fun x=>(n,x)),q.1=n:=fun q hq=>by
    obtain ⟨x,_,rfl⟩:=List.mem_map.mp hq;rfl
   refine ⟨List.nodup_append.mpr ⟨?_,ih.1,fun a ha b hb e=>?_⟩,fun q h=>?_⟩
   ·exact List.Pairwise.map _ (fun a b hab e=>hab (by cases e;rfl)) (hd n t hl)
   ·have:=ih.2 b hb
    rw [← e,hq a ha] at this
    exact h1.1 this
   ·rcases List.mem_append.mp h with h | h
    ·rw [hq q h];exact .head _
    ·exact .tail _ (ih.2 q h)
end Mine
end
section
namespace Mine
theorem fN_k {k k' j j':Nat} (hk:k < 4) (hk':k' < 4) (hj:j < 2) (hj':j' < 2):(fN "f" k j=fN "f" k' j'→k=k')∧(fN "g" k j=fN "g" k' j'→k=k')∧(fN "f" k j=fN "g" k' j'→k=k')∧(fN "g" k j=fN "f" k' j'→k=k'):=
 have H1:∀ k,k < 4→∀ k',k' < 4→∀ j,j < 2→∀ j',j' < 2→fN "f" k j=fN "f" k' j'→k=k':=by decide +kernel
 have H2:∀ k,k < 4→∀ k',k' < 4→∀ j,j < 2→∀ j',j' < 2→fN "g" k j=fN "g" k' j'→k=k':=by decide +kernel
 have H3:∀ k,k < 4→∀ k',k' < 4→∀ j,j < 2→∀ j',j' < 2→fN "f" k j=fN "g" k' j'→k=k':=by decide +kernel
 ⟨H1 k hk k' hk' j hj j' hj',H2 k hk k' hk' j hj j' hj',H3 k hk k' hk' j hj j' hj',fun e=>(H3 k' hk' k hk j' hj' j hj e.symm).symm⟩
theorem IsSig.fields {k:Nat} {t:Sg} (hk:k < 4) (h:IsSig k t):(t.decls.flatMap (·.fields)).Nodup:=by
 obtain ⟨h1,h2⟩:=h.decls
 have one:∀ j d,dcK k j d→j < 2→d.fields.Nodup∧∀ x∈d.fields,x=fN "f" k j∨x=fN "g" k j:=fun j d hd hj=>by
  obtain ⟨_,e⟩:=hd
  have:=(fN_inj hk hj hj).2.2
  rw [e]
  split
  ·exact ⟨by simp [this],fun x hx=>by simpa using hx⟩
  ·exact ⟨by simp,fun x hx=>.inl (by simpa using hx)⟩
 match hd:t.decls with
 | []=>exact .nil
 | [d]=>
  have:=one 0 d (h2 0 d (by rw [hd];rfl)) (by decide)
  simpa using this.1
 | [d,e]=>
  obtain ⟨a1,a2⟩:=one 0 d (h2 0 d (by rw [hd];rfl)) (by decide)
  obtain ⟨b1,b2⟩:=one 1 e (h2 1 e (by rw [hd];rfl)) (by exact Nat.le_refl _)
  simp only [List.flatMap_cons,List.flatMap_nil,List.append_nil]
  refine List.nodup_append.mpr ⟨a1,b1,fun x hx y hy q=>?_⟩
  have i:=fN_inj (k:=k) (j:=0) (j':=1) hk (by decide) (by exact Nat.le_refl _)
  have i':=fN_inj (k:=k) (j:=1) (j':=0) hk (by exact Nat.le_refl _) (by decide)
  rcases a2 x hx with ex | ex<;>rcases b2 y hy with ey | ey<;>rw [ex,ey] at q
  ·have:=i.1 q;omega
  ·exact i.2.2 q
  ·exact i'.2.2 q.symm
  ·have:=i.2.1 q;omega
 | _::_::_::_=>rw [hd] at h1;simp at h1
theorem own_at {ts:List Sg} (h:Four ts) {f:Fd} (hf:f∈ownF (rowsS ts)):∃ k j:Nat,k < 4∧j < 2∧Mine.rk f.name=k∧(f.field=fN "f" k j∨f.field=fN "g" k j)∧∃ t,look (rowsS ts) f.name=some t:=by
 obtain ⟨p,hp,e1,e2,_⟩:=numbered_mem hf
 obtain ⟨_,t,ht,hm⟩:=declsOf_mem hp
 obtain ⟨h1,h2⟩:=mem_rows.mp (mem_of_look ht)
 obtain ⟨k,hk,hs⟩:=h.sig t h1
 obtain ⟨j,hj⟩:=List.getElem?_of_mem hm
 have hl:=(List.getElem?_eq_some_iff.mp hj).1
 obtain ⟨h3,h4⟩:=hs.decls
 obtain ⟨_,h5⟩:=h4 j _ hj
 rw [h5] at e2
 refine ⟨k,j,hk,by exact q2 ‹_› ‹_›,by rw [e1];exact hs.rk hk _ h2,?_,t,by rw [e1];exact ht⟩
 split at e2
 ·simpa using e2
 ·exact .inl (by simpa using e2)
theorem IsSig.nlen {k:Nat} {t:Sg} (hk:k < 4) (h:IsSig k t):∀ x∈t.names,x.length=1:=fun x hx=>by
 have:∀ k:Nat,k < 4→(poolN k).1.length=1∧(poolN k).2.length=1:=fun k hk=>match k,hk with
  | 0,_=>⟨rfl,rfl⟩
  | 1,_=>⟨rfl,rfl⟩
  | 2,_=>⟨rfl,rfl⟩
  | 3,_=>⟨rfl,rfl⟩
 obtain ⟨h1,h2⟩:=this k hk
 rcases h.names with e | e<;>rw [e] at hx
 ·rw [List.mem_singleton.mp hx];exact h1
 ·simp only [List.mem_cons,List.not_mem_nil,or_false] at hx
  rcases hx with e | e<;>rw [e]<;>assumption
theorem Four.keysNd {ts:List Sg} (h:Four ts):(keys (rowsS ts)).Nodup:=good_nodup h.good
theorem Four.field {ts:List Sg} (h:Four ts):Good (BadField (rowsS ts)) (ownF (rowsS ts)):=fun pre f post e hb=>by
 have hf:f∈ownF (rowsS ts):=by rw [e];simp
 obtain ⟨k,j,hk,hj,hr,hfx,t,ht⟩:=own_at h hf
 rcases hb with hb | ⟨o,ho,q,hq,hqf,hqn⟩
 ·obtain ⟨t',ht',hx⟩:=mem_keys.mp hb
  obtain ⟨k',hk',hs'⟩:=h.sig t' ht'
  have h1:=hs'.nlen hk' _ hx
  have h3:f.field.length=3:=by
   rcases hfx with e | e<;>rw [e]<;>exact fN_len (by decide) hk (by exact q1 ‹_›)
  omega
 ·have hqm:q∈ownF (rowsS ts):=by rw [e];exact List.mem_append_left _ hq
  obtain ⟨k',j',hk',hj',hr',hqx,_⟩:=own_at h hqm
  have hkk:k'=k:=by
   have:=fN_k hk' hk hj' hj
   rw [hqf] at hqx
   rcases hfx with e1 | e1<;>rcases hqx with e2 | e2<;>rw [e1] at e2
   ·exact (this.1 e2.symm)
   ·exact (this.2.2.2 e2.symm)
   ·exact (this.2.2.1 e2.symm)
   ·exact (this.2.1 e2.symm)
  rcases ho with rfl | ho
  ·have nd:((ownF (rowsS ts)).map fun f=>(f.name,f.field)).Nodup:=by
    unfold ownF
    rw [numbered_pairs]
    exact (pairs_nodup (fun n t hl=>by
     obtain ⟨h1,_⟩:=mem_rows.mp (mem_of_look hl)
     obtain ⟨k,hk,hs⟩:=h.sig t h1
     exact hs.fields hk) (h.order.nodup_iff.mpr h.keysNd)).1
   rw [e,List.map_append,List.map_cons] at nd
   obtain ⟨_,_,h3⟩:=List.nodup_append.mp nd
   exact h3 (q.name,q.field) (List.mem_map_of_mem hq) (f.name,f.field) (.head _) (by rw [hqf,hqn])
  ·have:=h.above ht ho
   rw [← hqn] at this
   omega
theorem IsModel.taken {its:List Im} (h:IsModel its):Taken its:=by
 obtain ⟨h1,h2⟩:=h.four
 exact ⟨h1.good,h1.row,h1.ring,h1.field,by rw [h2];exact h1.opn⟩
end Mine
end
section
namespace Mine
variable {w:World} {env:Env} {n:Nat} {N:List Addr} {ρ:Rho} {ad:Addr} {cs:List D} {B B' B'':Nat}
theorem St.frzH {G₀ G:Fz} {s₀ s:Shared} {M:List Addr} {x:Str} {a:Addr} {l:List D} {ρ':Rho} (c:St w env G₀ s₀ M ρ G s) (sw:Swap (some x,own w.params a l) (some x,dat w.params (.lst l)) ρ ρ') (h0:s₀.heap.get? a=none):∃ G',St w env G₀ s₀ M ρ' G' s:=by
 obtain ⟨r,h1,h2⟩:=sw.perm
 have d:=c.perm h1
 obtain ⟨o1,o2,o3⟩:=d.ows _ (.head _) a (by show a∈[a];simp)
 obtain ⟨f1,f2,f3⟩:=d.fps _ (.head _) a o1
 obtain ⟨sp,sr⟩:=List.pairwise_cons.mp d.sep
 obtain ⟨v,hv,rfl,vs,m,ho,hr⟩:=d.vars _ (.head _)
 have out:∀ b,b≠a→G b=none→G.put a (lstO vs m) b=none:=fun b hb e=>by unfold Fz.put;rw [if_neg hb];exact e
 have hle:=d.step.le_put ho
 refine ⟨G.put a (lstO vs m),St.perm (ρ:=(some x,dat w.params (.lst l))::r) ?_ h2.symm⟩
 exact {
  step:=d.step.freeze h0 ho
  base:=d.base
  fr:=d.fr
  newL:=d.newL
  GL:=out _ (fun e=>f2 e.symm) d.GL
  cell:=fun y cc hm=>⟨(d.cell y cc hm).1,out _ (fun e=>f3 y cc hm e.symm) (d.cell y cc hm).2⟩
  apart:=d.apart
  cnew:=d.cnew
  vars:=fun q hq=>by
   rcases List.mem_cons.mp hq with e | hq
   ·subst e;exact ⟨.ref a,hv,.lst Fz.put_self (hr.mono hle)⟩
   ·exact (d.vars q (.tail _ hq)).next hle (fun _ e=>e) (fun _ _ _ _ e=>e) fun _ _ _ e=>e
  fps:=fun q hq b hb=>by
   rcases List.mem_cons.mp hq with e | hq
   ·subst e;exact nomatch hb
   ·exact d.fps q (.tail _ hq) b hb
  ows:=fun q hq b hb=>by
   rcases List.mem_cons.mp hq with e | hq
   ·subst e;exact nomatch hb
   ·obtain ⟨g1,g2,g3⟩:=d.ows q (.tail _ hq) b hb
    exact ⟨g1,out _ (fun e=>(sp q hq).2.1 a (by show a∈[a];simp) (e▸g1)) g2,g3⟩
  sep:=List.pairwise_cons.mpr ⟨fun q hq=>⟨(sp q hq).1,(fun b hb=>nomatch hb),fun b _ hm=>nomatch hm⟩,sr⟩}
theorem St.frzN {G₀ G:Fz} {s₀ s:Shared} {M:List Addr} {x:Str} {a:Addr} {l:List D} {ρ':Rho} (c:St w env G₀ s₀ M ρ G s) (sw:Swap (some x,own w.params a l) (some x,dat w.params (.lst l)) ρ ρ') (hM:a∉M):∃ G',St w env G₀ s₀ M ρ' G' s:=
 c.frzH sw ((c.ows _ sw.mem a (by show a∈[a];simp)).2.2.resolve_left hM)
noncomputable def intsD (l:List Nat):List D:=l.map fun i=>.int ((i:Nat):Int)
theorem intsD_flat {l:List Nat}:flats 1 (intsD l)=true:=by
 induction l with
 | nil=>rfl
 | cons x r ih=>show (flat 1 (.int _)&&flats 1 (intsD r))=true;rw [ih];rfl
noncomputable def isR (f:List Str) (left:List (Str×Sg)) (k:Nat):Bool:=match left[k]? with
 | some p=>ready f p.2
 | none=>false
noncomputable def ablesOf (f:List Str) (left:List (Str×Sg)):List Nat:=(List.range left.length).filter (isR f left)
theorem ables_first {f:List Str} {left:List (Str×Sg)}:(ablesOf f left).head? = left.findIdx? (fun p=>ready f p.2):=by
 induction left with
 | nil=>rfl
 | cons p r ih=>
  rw [List.findIdx?_cons]
  unfold ablesOf at ih ⊢
  rw [List.length_cons,List.range_succ_eq_map,List.filter_cons]
  rw [show isR f (p::r) 0=ready f p.2 from rfl]
  cases hr:ready f p.2 with
  | true=>rfl
  | false=>
   rw [List.filter_map,show (isR f (p::r))∘Nat.succ=isR f r from rfl,← ih]
   simp
noncomputable def pR (f:List Str) (left:List (Str×Sg)):D→Bool
 | .int z=>isR f left z.toNat
 | _=>false
theorem range_filter_pR (f:List Str) (left:List (Str×Sg)) (m:Nat):((List.range m).map fun i=>D.int ((i:Nat):Int)).filter (pR f left)=intsD ((List.range m).filter (isR f left)):=by
 rw [List.filter_map]
 congr 1
structure TdX where
 f:List Str
 left:List (Str×Sg)
 a2:Addr
 a3:Addr
 ab:List Nat
noncomputable def tdR (w:World) (its:List Im) (a1:Addr) (z:TdX):Rho:=
 [(some ("items" : Str),dat w.params (.lst (its.map encI))),(some ("found" : Str),own w.params a1 (z.f.map .str)),(some ("left" : Str),own w.params z.a2 (z.left.map rowD)),(some ("able" : Str),own w.params z.a3 (intsD z.ab))]
structure TdP (rows:List (Str×Sg)) (z:TdX):Prop where
 run:if z.ab=[] then told rows=(z.f,z.left) else toldF z.left.length z.f z.left=told rows
 sub:∀ p∈z.left,p∈rows
 key:∀ y∈z.f,y∈keys rows
 len:z.f.length+z.left.length=rows.length
noncomputable def envTd (L:Addr):Env:=callEnvC (lawFd 15 "_law_told" 301) L 302
theorem ev_direct {e:PySem.Expr} {np pos:Pos} {t:Sg} (hb:t.sups.length≤1000) (hf:EvV w env (n+1) [] ρ (.Name "_law_direct" np) (.ref 297)) (he:Ev w env (n+1) [] ρ e (fun d=>d=encS t)) (ht:backTo pos (starEach [e] env)=[(false,eval e env)]:=by rfl) :
  EvL w env (n+1) [] ρ (.Call (.Name "_law_direct" np) [e] [] pos) (fun l=>l=t.up.map .str):=
 evk_call (PA:=fun l=>l=[encS t]) ff_direct hf (trs1 he (fun _ h=>by rw [h])) ht ⟨_,_,rfl⟩ (fun _ _ _ _ _ x h=>x.early h) (fun G s vs ds i b r p=>by subst p;exact c_direct t hb i b r)
theorem evl_rows {e:PySem.Expr} {np pos:Pos} {its:List Im} (hl:its.length≤1000) (hn:∀ t∈sigsOf its,t.names.length≤900) (hf:EvV w env (n+1) [] ρ (.Name "_law_rows" np) (.ref 290)) (he:Ev w env (n+1) [] ρ e (fun d=>d=.lst (its.map encI))) (ht:backTo pos (starEach [e] env)=[(false,eval e env)]:=by rfl) :
  EvL w env (n+1) [] ρ (.Call (.Name "_law_rows" np) [e] [] pos) (fun l=>l=(rowsS (sigsOf its)).map rowD):=
 evk_call (PA:=fun l=>l=[.lst (its.map encI)]) ff_rows hf (trs1 he (fun _ h=>by rw [h])) ht ⟨_,_,rfl⟩ (fun _ _ _ _ _ x h=>x.early h) (fun G s vs ds i b r p=>by subst p;exact c_rows hl hn i b r)
set_option maxHeartbeats 1000000 in
theorem c_told {its:List Im} (hl:its.length≤1000) (hn:∀ t∈sigsOf its,t.names.length≤900) (hf:Fine (rowsS (sigsOf its))) {G:Fz} {s:Shared} {vs:List Value} (i:Inn G s.heap) (b:Bs w G) (r:RepL w.params G vs [.lst (its.map encI)]) :
  Op w (n+2) [] G s (call (.ref 302) vs) (KD w (fun d=>d=.tup [.lst ((told (rowsS (sigsOf its))).1.map .str),.lst ((told (rowsS (sigsOf its))).2.map rowD)])):=by
 refine op_dat ff_told ["items"] (bind1 fun _=>rfl) (by decide) (by decide +kernel) i b r rfl ?_
 rintro env A s₁ Q E rfl a c kk
 change St w (envTd _) _ _ _ _ _ _ at c
 change wpAny _ _ (execs _ (envTd _)) _ _ _
 generalize s.heap.objs.size=L at c ⊢
 generalize hrw:rowsS (sigsOf its)=rows at hf kk ⊢
 have c':St w (envTd L) G s [] [(some ("items" : Str),dat w.params (.lst (its.map encI)))] G s₁:=c
 have hlen:=hf.len
 refine st_tupB (xs:=["found","left","able"]) (P:=fun Ks=>∃ a1 a2 a3,Ks=[own w.params a1 [],own w.params a2 (rows.map rowD),own w.params a3 (intsD [0])]) (ρs:=fun Ks=>match Ks with | [k1,k2,k3]=>[(some ("items" : Str),dat w.params (.lst (its.map encI))),(some ("found" : Str),k1),(some ("left" : Str),k2),(some ("able" : Str),k3)] | _=>[]) a c'
  (trsO_cons (P1:=fun K=>∃ a l,K=own w.params a l∧l=[]) (EvL.o (evl_list (trs_nil rfl))) fun K v ⟨a1,l,e,e2⟩=>trsO_cons (P1:=fun K=>∃ a l,K=own w.params a l∧l=rows.map rowD) (EvO.under (EvL.o ?wt)) fun K2 v2 ⟨a2,l2,e3,e4⟩=>trsO_cons (P1:=fun K=>∃ a l,K=own w.params a l∧l=intsD [0]) (EvL.o (evl_listQ (mq ev_int mq_nil))) fun K3 v3 ⟨a3,l3,e5,e6⟩=>trsO_nil ⟨a1,a2,a3,by rw [e,e2,e3,e4,e5,e6]⟩) rfl rfl (Nat.le_of_ble_eq_true rfl) rfl
  (.inl ⟨.name (.inr ⟨rfl,rfl,rfl⟩) (.name (.inr ⟨rfl,rfl,rfl⟩) (.name (.inl rfl) .nil)),rfl,rfl,?_⟩) ?_
 case wt=>rw [← hrw];exact evl_rows hl hn (evv_glob rfl (by rfl) rfl rfl) (ev_name (.head _) rfl)
 ·rintro Ks ⟨a1,a2,a3,rfl⟩
  exact .cons (.skip (by decide) .new) (.cons (.skip (by decide) (.skip (by decide) .new)) (.cons (.skip (by decide) (.skip (by decide) (.skip (by decide) .new))) .nil))
 rintro Ks G1 s1 ⟨a1,a2,a3,rfl⟩ c1
 refine st_while (N:=[]) (X:=TdX) a noN (fun z=>z.left.length+if z.ab=[] then 0 else 1) (TdP rows) (tdR w its a1) (fun z=>!z.ab.isEmpty) ⟨[],rows,a2,a3,[0]⟩ c1 ⟨rfl,fun _ h=>h,(fun _ h=>nomatch h),by simp⟩ ?_ ?_ ?_
 ·rintro z hz
  refine tr_neR (P1:=fun d=>d=.lst (intsD z.ab)) (P2:=fun d=>d=.lst []) (EvS.r (P:=fun l=>l=intsD z.ab) 1 (evs_own mh3 rfl) (fun l h=>by subst h;exact ⟨intsD_flat,rfl⟩)) (EvS.r (P:=fun l=>l=[]) 1 (EvL.evs (evl_list (trs_nil rfl))) (fun l h=>by subst h;exact ⟨rfl,rfl⟩)) ?_
  rintro _ _ rfl rfl
  show (!PyData.eqvAll _ _)=_
  rw [toPys,eqv_nil]
  cases z.ab<;>rfl
 ·rintro ⟨f,left,a2,a3,ab⟩ G2 s2 ⟨ht,hsb,hfk,hb⟩ hne c2
  dsimp only at ht hsb hfk hb hne
  have hab:ab≠[]:=by intro e;rw [e] at hne;simp at hne
  rw [if_neg hab] at ht
  refine st_asgComp (n:=n+1) (Pds:=fun ds=>ds=(List.range left.length).map fun i=>D.int ((i:Nat):Int)) (P:=fun l=>l=intsD (ablesOf f left)) (cl:=[("left",L+2),("found",L+1)]) _
   [(some ("found" : Str),(own w.params a1 (f.map .str)).ro),(some ("left" : Str),(own w.params a2 (left.map rowD)).ro)]
   (fun d=>[(some ("found" : Str),(own w.params a1 (f.map .str)).ro),(some ("left" : Str),(own w.params a2 (left.map rowD)).ro),(some ("k" : Str),dat w.params d)])
   (pR f left) (fun d r=>r=d) (ρ':=fun ad l=>[(some ("items" : Str),dat w.params (.lst (its.map encI))),(some ("found" : Str),own w.params a1 (f.map .str)),(some ("left" : Str),own w.params a2 (left.map rowD)),(some ("able" : Str),own w.params ad l)]) a c2 c2
   (ite_range (P1:=fun d=>d=.int (left.length:Int)) (evv_blt rfl (by rfl) rfl rfl rfl rfl) (ev_lenS (P1:=fun l=>l=left.map rowD) (evv_blt rfl (by rfl) rfl rfl rfl rfl) (evs_own mh2 rfl) rfl (by rintro _ rfl;exact ⟨by simp;omega,by simp⟩)) rfl (by exact fun _ a=>⟨_,a,by omega,rfl⟩))
   rfl (by decide) rfl (by decide) ?hcl ?hclp ?hcap ?hasg (fun d=>List.sublist_append_left [_,_] [_]) ?htest ?helt ?hP ?hu rfl rfl ?kk
  case hcl=>
   intro y cc h
   simp only [List.lookup_cons,List.lookup_nil] at h
   split at h
   ·cases h;exact ⟨"left",rfl⟩
   ·split at h
    ·cases h;exact ⟨"found",rfl⟩
    ·cases h
  case hclp=>simp
  case hcap=>exact .drop (.var (.inl rfl) rfl (by first | exact .inl rfl | exact .inr rfl) (.var (.inl rfl) rfl (by first | exact .inl rfl | exact .inr rfl) (.drop .nil)))
  case hasg=>
   rintro C K1 K2 A E G₀ s₀ G s ds d v aa rfl hd hr cc
   exact st_name cc hr (.skip (fun h=>nomatch h) (.skip (fun h=>nomatch h) (.skip (by decide) (.skip (by decide) .new)))) rfl (.inl rfl) fun s' c'=>⟨_,c'⟩
  case htest=>
   rintro C K1 K2 ds d rfl hd
   obtain ⟨k,hk,rfl⟩:=List.mem_map.mp hd
   have hk:=List.mem_range.mp hk
   obtain ⟨p,hp⟩:∃ p,left[k]? = some p:=⟨left[k],List.getElem?_eq_getElem hk⟩
   have hpr:=hsb p (List.mem_of_getElem? hp)
   have hup:=up_len (hf.sup p hpr)
   refine .one (tr_eqR (P1:=fun d=>d=.lst ((p.2.up.filter fun u=>!decide (u∈f)).map .str)) (P2:=fun d=>d=.lst []) (EvS.r (P:=fun l=>l=(p.2.up.filter fun u=>!decide (u∈f)).map .str) 1 (EvL.evs ?inner) (fun l h=>by
     subst h
     exact ⟨strs_flat (fun u hu=>(hf.ok p hpr u (List.mem_filter.mp hu).1).1) 1,rfl⟩)) (EvS.r (P:=fun l=>l=[]) 1 (EvL.evs (evl_list (trs_nil rfl))) (fun l h=>by subst h;exact ⟨rfl,rfl⟩)) ?_)
   case inner=>
    refine evl_comp1 (Pds:=fun ds=>ds=p.2.up.map .str) (cl:=[("found",L+1)]) ((some ("found" : Str),(own w.params a1 (f.map .str)).ro)::[]) (fun d=>(some ("found" : Str),(own w.params a1 (f.map .str)).ro)::(some ("one" : Str),dat w.params d)::[])
     (fun d=>match d with | .str u=>!decide (u∈f) | _=>false) (fun d r=>r=d)
     (ite_lst (EvL.ev (ev_direct (by have:=hf.sup p hpr;exact q1 ‹_›) (evv_glob rfl (by rfl) rfl rfl) (pu_tup (l:=[.str p.1,encS p.2]) (ev_sub_lstS (P1:=fun l=>l=left.map rowD) (P2:=fun d=>d=.int (k:Int)) (evs_ro mh3 rfl) (ev_name mh4 rfl) (by rintro _ _ rfl rfl;exact ⟨_,_,rfl,by simp;omega,by exact qd,by simp [hp];rfl,rfl⟩)) (by simp) rfl))) fun d ⟨l,e,h⟩=>⟨l,e,h⟩)
     rfl (by decide) rfl (by decide) ?_ (fun _=>by simp) (.drop (.drop (.var (by first | exact .inl rfl | exact .inr rfl) rfl (by first | exact .inl rfl | exact .inr rfl) (.drop (.drop .nil))))) (fun _ h=>nomatch h) ?_ (fun d=>List.sublist_append_left [_] [_]) ?_ ?_ ?_
    ·intro y cc h
     simp only [List.lookup_cons,List.lookup_nil] at h
     split at h
     ·cases h;exact ⟨"found",rfl⟩
     ·cases h
    ·rintro C K1 K2 A E G₀ s₀ G s ds d v aa rfl hd hr cc
     exact st_name cc hr (.skip (fun h=>nomatch h) (.skip (fun h=>nomatch h) (.skip (by decide) .new))) rfl (.inl rfl) fun s' c'=>⟨_,c'⟩
    ·rintro C K1 K2 ds d rfl hd
     obtain ⟨u,hu,rfl⟩:=List.mem_map.mp hd
     exact .one (tr_notIn (P1:=fun d=>d=.str u) (P2:=fun ss=>ss=f) (ev_name mh3 rfl) (EvS.ss (evs_ro (x:="found") (a:=a1) (ds:=f.map .str) mh2 rfl) fun l h=>⟨f,h,fun y hy=>(hf.okk y (hfk y hy)).1,rfl⟩) (by rintro _ _ rfl rfl;exact ⟨u,rfl,(hf.ok p hpr u hu).1,rfl⟩))
    ·rintro C K1 K2 ds d rfl hd hpd
     exact ev_name mh3 rfl
    ·rintro ds l rfl
     refine ⟨by simp;exact q1 ‹_›,fun h=>?_⟩
     rw [all2_eq h,List.filter_map];rfl
   ·rintro _ _ rfl rfl
    show PyData.eqvAll _ _=isR f left k
    rw [toPys,eqv_nil]
    unfold isR ready
    rw [hp,Bool.eq_iff_iff]
    simp
  case helt=>
   rintro C K1 K2 ds d rfl hd hpd
   exact ev_name mh4 rfl
  case hP=>
   rintro ds l rfl
   refine ⟨by simp;omega,fun h=>?_⟩
   rw [all2_eq h,range_filter_pR];rfl
  case hu=>
   intro C ad l
   exact .skip (fun e=>nomatch e) (.skip (by decide) (.skip (by decide) (.skip (by decide) .hit)))
  case kk=>
   rintro ad l G3 s3 rfl hnew c3
   have hal:(ablesOf f left).length≤1000:=by
    have:=List.length_filter_le (isR f left) (List.range left.length)
    unfold ablesOf;rw [List.length_range] at this;omega
   have hfi:=ables_first (f:=f) (left:=left)
   refine st_if a noN c3 (P:=fun b=>b = !(ablesOf f left).isEmpty) (tr_neR (P1:=fun d=>d=.lst (intsD (ablesOf f left))) (P2:=fun d=>d=.lst []) (EvS.r (P:=fun l=>l=intsD (ablesOf f left)) 1 (evs_own mh3 rfl) (fun l h=>by subst h;exact ⟨intsD_flat,rfl⟩)) (EvS.r (P:=fun l=>l=[]) 1 (EvL.evs (evl_list (trs_nil rfl))) (fun l h=>by subst h;exact ⟨rfl,rfl⟩)) ?_) ?_
   ·rintro _ _ rfl rfl
    show (!PyData.eqvAll _ _)=_
    rw [toPys,eqv_nil]
    cases ablesOf f left<;>rfl
   rintro bb G4 s4 rfl c4
   cases hab2:ablesOf f left with
   | nil=>
    rw [hab2] at hfi c4
    rw [if_neg (by simp)]
    refine st_nil (st_nil ⟨⟨f,left,a2,ad,[]⟩,G4,?_,⟨?_,hsb,hfk,hb⟩,c4⟩)
    ·show left.length+0 < left.length+if ab=[] then 0 else 1
     rw [if_neg hab];exact Nat.le_refl _
    ·show told rows=(f,left)
     rw [← ht]
     cases left with
     | nil=>rfl
     | cons p r=>
      show toldF (r.length+1) f (p::r)=_
      unfold toldF
      rw [← hfi];rfl
   | cons j tl=>
    rw [hab2] at hfi c4 hal
    rw [if_pos (by simp)]
    have hfi:left.findIdx? (fun p=>ready f p.2)=some j:=hfi.symm
    have hj2:j < left.length:=by
     have hm:j∈ablesOf f left:=by rw [hab2];exact .head _
     exact List.mem_range.mp (List.mem_filter.mp hm).1
    obtain ⟨p,hj⟩:∃ p,left[j]? = some p:=⟨left[j],List.getElem?_eq_getElem hj2⟩
    have hpl:p∈left:=List.mem_of_getElem? hj
    have ha0:∀ {ρ':Rho} {p1 kk p2 p3},(some ("able" : Str),own w.params ad (intsD (j::tl)))∈ρ'→Ev w (envTd L) (n+1) [] ρ' (.Subscript (.Name "able" p1) (.Constant (.int 0) kk p2) p3) (fun d=>d=.int (j:Int)):=fun h=>
     ev_sub_lstS (P1:=fun l=>l=intsD (j::tl)) (P2:=fun d=>d=.int 0) (evs_own h rfl) ev_int (by rintro _ _ rfl rfl;exact ⟨0,_,rfl,by simp [intsD] at hal ⊢;exact q1 ‹_›,by exact qd,rfl,rfl⟩)
    refine st_app (o:=.Name "found" _) (l:=a1) (ds:=f.map .str) (Ks:=fun d=>own w.params a1 (f.map .str++[d])) (P:=fun d=>d=.str p.1) a c4 (evv_own mh1 rfl) (fun d=>.tail .head) (fun d=>lkO)
     (pu_tup (k:=0) (l:=[.str p.1,encS p.2]) (ev_sub_lstS (P1:=fun l=>l=left.map rowD) (P2:=fun d=>d=.int (j:Int)) (evs_own mh2 rfl) (ha0 mh3) (by rintro _ _ rfl rfl;exact ⟨_,_,rfl,by simp;omega,by exact qd,by simp [hj];rfl,rfl⟩)) (by simp) rfl) (by simp;omega) ?_
    rintro d G5 s5 rfl c5
    have e1:f.map D.str++[.str p.1]=(f++[p.1]).map .str:=by simp
    rw [e1] at c5
    refine st_own a noN c5 (evl_add (P1:=fun l'=>l'=(left.map rowD).take j) (P2:=fun l'=>l'=(left.map rowD).drop (j+1)) (P:=fun l'=>l'=(left.eraseIdx j).map rowD)
     (EvL.evs (evl_sliceS (P1:=fun l'=>l'=left.map rowD) (P2:=fun o=>o=none) (P3:=fun o=>o=some (j:Int)) (evs_own mh2 rfl) (.none rfl) (.some ((ha0 mh3).mono fun _ _ _ _ _ ⟨d,rr,e⟩=>⟨d,rr,_,e,rfl⟩)) (by rintro _ _ _ rfl rfl rfl;exact ⟨by simp;omega,pick_hi (by simp;exact Nat.le_of_lt ‹_›)⟩)))
     (EvL.evs (evl_sliceS (P1:=fun l'=>l'=left.map rowD) (P2:=fun o=>o=some ((j+1:Nat):Int)) (P3:=fun o=>o=none) (evs_own mh2 rfl) (.some (ev_add_int (P1:=fun d=>d=.int (j:Int)) (P2:=fun d=>d=.int 1) (ha0 mh3) ev_int (by exact fun _ _ a b=>⟨_,_,a,b,_,rfl,by simp⟩))) (.none rfl) (by rintro _ _ _ rfl rfl rfl;exact ⟨by simp;omega,pick_lo (by simp;omega)⟩)))
     (by rintro _ _ rfl rfl;exact ⟨by simp;omega,by rw [← List.map_take,← List.map_drop,← List.map_append,List.eraseIdx_eq_take_drop_succ]⟩))
     (ρ':=fun al l=>[(some ("items" : Str),dat w.params (.lst (its.map encI))),(some ("found" : Str),own w.params a1 ((f++[p.1]).map .str)),(some ("left" : Str),own w.params al l),(some ("able" : Str),own w.params ad (intsD (j::tl)))]) (fun al l=>.skip (by decide) (.skip (by decide) .hit)) rfl (.inr ⟨rfl,rfl,rfl⟩) ?_
    rintro al _ G6 s6 rfl hnew6 c6
    have hel:(left.eraseIdx j).length+1=left.length:=by rw [List.length_eraseIdx_of_lt hj2];omega
    refine st_nil (st_nil ⟨⟨f++[p.1],left.eraseIdx j,al,ad,j::tl⟩,G6,?_,⟨?_,fun q hq=>hsb q (List.mem_of_mem_eraseIdx hq),?_,?_⟩,c6⟩)
    ·show (left.eraseIdx j).length+1 < left.length+if ab=[] then 0 else 1
     rw [if_neg hab];omega
    ·show toldF (left.eraseIdx j).length (f++[p.1]) (left.eraseIdx j)=told rows
     rw [← ht,← hel]
     conv=>rhs;unfold toldF
     rw [hfi]
     dsimp only
     rw [hj];rfl
    ·intro y hy
     rcases List.mem_append.mp hy with h | h
     ·exact hfk y h
     ·rw [List.mem_singleton.mp h];exact List.mem_map_of_mem (hsb p hpl)
    ·show (f++[p.1]).length+(left.eraseIdx j).length=rows.length
     simp only [List.length_append,List.length_cons,List.length_nil]
     omega
 ·rintro ⟨f,left,a2,a3,ab⟩ G2 s2 ⟨ht,hsb,hfk,hb⟩ hne c2
  dsimp only at ht
  have:ab=[]:=by simpa using hne
  rw [if_pos this] at ht
  rw [ht] at kk
  obtain ⟨G3,c3⟩:=c2.frzN (.tail .head) (fun h=>nomatch h)
  obtain ⟨G4,c4⟩:=c3.frzN (.tail (.tail .head)) (fun h=>nomatch h)
  exact st_ret a noN c4 (K:=fun _=>KD w (fun d=>d=.tup [.lst (f.map .str),.lst (left.map rowD)])) (ev_tupQ (mq (ev_name mh1 rfl) (mq (ev_name mh2 rfl) mq_nil))) fun v G' s' y z q=>kk (.ret v) G' s' z.step q
end Mine
end
section
namespace Mine
variable {w:World} {env:Env} {n:Nat} {N:List Addr} {ρ:Rho} {ad:Addr} {cs:List D} {B B' B'':Nat}
noncomputable def leS (x y:Str):Prop:=x.cps.toList≤y.cps.toList
theorem leS_of {x y:Str} (h:(!Spec.ltCps y.cps.toList x.cps.toList)=true):leS x y:=by
 rw [ltCps_eq] at h
 exact List.not_lt.mp (by simpa using h)
theorem leS_trans {x y z:Str} (h:leS x y) (k:leS y z):leS x z:=List.le_trans h k
theorem leS_anti {x y:Str} (h:leS x y) (k:leS y x):x=y:=by
 have:=List.le_antisymm h k
 obtain ⟨a⟩:=x
 obtain ⟨b⟩:=y
 congr 1
 exact Array.toList_inj.mp this
theorem rising_pw {l:List Str} {p:Str} (h:risingS p l=true):(p::l).Pairwise leS:=by
 induction l generalizing p with
 | nil=>exact List.pairwise_singleton _ _
 | cons x r ih=>
  have h:=Bool.and_eq_true_iff.mp (show (_&&_)=true from h)
  have ih:=ih h.2
  refine List.pairwise_cons.mpr ⟨fun y hy=>?_,ih⟩
  rcases List.mem_cons.mp hy with e | hy
  ·rw [e];exact leS_of h.1
  ·exact leS_trans (leS_of h.1) ((List.pairwise_cons.mp ih).1 y hy)
theorem sorted_pw:∀ {l:List Str},sortedS l=true→l.Pairwise leS
 | [],_=>.nil
 | x::r,h=>rising_pw h
theorem sorted_eq {a b:List Str} (ha:sortedS a=true) (hb:sortedS b=true) (h:a.Perm b):a=b:=
 List.Perm.eq_of_pairwise (le:=leS) (fun _ _ _ _=>leS_anti) (sorted_pw ha) (sorted_pw hb) h
theorem AbR.nodup {up:Str→List Str} {f ws r:List Str} (h:AbR up f ws r):f.Nodup→r.Nodup:=by
 induction h with
 | done=>exact id
 | old _ _ ih=>exact ih
 | @new f o ws r ho _ ih=>
  intro hf
  refine ih (List.nodup_append.mpr ⟨hf,by simp,fun a ha b hb=>?_⟩)
  rw [List.mem_singleton.mp hb]
  exact fun e=>ho (e▸ha)
theorem mu_swap {rows:List (Str×Sg)} {f ws:List Str} {o:Str}:mu rows f (ws++[o])=mu rows f (o::ws):=by unfold mu;simp
structure AbI (rows:List (Str×Sg)) (w0:List Str) (z:List Str×List Str):Prop where
 nd:z.1.Nodup
 fr:∀ y,y∈z.1∨y∈z.2→Reach (upOf rows) w0 y
 st:∀ y∈w0,y∈z.1∨y∈z.2
 on:∀ x∈z.1,∀ y∈upOf rows x,y∈z.1∨y∈z.2
theorem AbI.old {rows:List (Str×Sg)} {w0 f ws:List Str} {o:Str} (h:AbI rows w0 (f,ws++[o])) (ho:o∈f):AbI rows w0 (f,ws):=by
 obtain ⟨h1,h2,h3,h4⟩:=h
 have cut:∀ y,y∈f∨y∈ws++[o]→y∈f∨y∈ws:=fun y hy=>by
  rcases hy with h | h
  ·exact .inl h
  ·rcases List.mem_append.mp h with h | h
   ·exact .inr h
   ·rw [List.mem_singleton.mp h];exact .inl ho
 exact ⟨h1,fun y hy=>h2 y (hy.imp id fun h=>List.mem_append.mpr (.inl h)),fun y hy=>cut y (h3 y hy),fun x hx y hy=>cut y (h4 x hx y hy)⟩
theorem AbI.new {rows:List (Str×Sg)} {w0 f ws:List Str} {o:Str} (h:AbI rows w0 (f,ws++[o])) (ho:o∉f):AbI rows w0 (f++[o],ws++upOf rows o):=by
 obtain ⟨h1,h2,h3,h4⟩:=h
 have cut:∀ y,y∈f∨y∈ws++[o]→y∈f++[o]∨y∈ws++upOf rows o:=fun y hy=>by
  rcases hy with h | h
  ·exact .inl (List.mem_append.mpr (.inl h))
  ·rcases List.mem_append.mp h with h | h
   ·exact .inr (List.mem_append.mpr (.inl h))
   ·exact .inl (List.mem_append.mpr (.inr h))
 have hro:Reach (upOf rows) w0 o:=h2 o (.inr (by simp))
 refine ⟨List.nodup_append.mpr ⟨h1,by simp,fun a ha b hb=>?_⟩,fun y hy=>?_,fun y hy=>cut y (h3 y hy),fun x hx y hy=>?_⟩
 ·rw [List.mem_singleton.mp hb]
  exact fun e=>ho (e▸ha)
 ·rcases hy with h | h
  ·rcases List.mem_append.mp h with h | h
   ·exact h2 y (.inl h)
   ·rw [List.mem_singleton.mp h];exact hro
  ·rcases List.mem_append.mp h with h | h
   ·exact h2 y (.inr (List.mem_append.mpr (.inl h)))
   ·exact .on hro h
 ·rcases List.mem_append.mp hx with h | h
  ·exact cut y (h4 x h y hy)
  ·rw [List.mem_singleton.mp h] at hy
   exact .inr (List.mem_append.mpr (.inr hy))
theorem AbI.done {rows:List (Str×Sg)} {w0 f:List Str} (h:AbI rows w0 (f,[])):∀ y,y∈f↔Reach (upOf rows) w0 y:=fun y=>by
 obtain ⟨h1,h2,h3,h4⟩:=h
 refine ⟨fun hy=>h2 y (.inl hy),fun hy=>?_⟩
 induction hy with
 | here h=>exact (h3 _ h).resolve_right fun h=>nomatch h
 | on _ h ih=>exact (h4 _ ih _ h).resolve_right fun h=>nomatch h
theorem look_in_keys {rows:List (Str×Sg)} {y:Str} {t:Sg} (h:look rows y=some t):y∈keys rows:=by
 unfold look at h
 obtain ⟨p,hp,e⟩:=Option.map_eq_some_iff.mp h
 have h1:=List.find?_some hp
 have h2:=List.mem_of_find?_eq_some hp
 have:p.1=y:=by simpa using h1
 rw [← this];exact List.mem_map_of_mem h2
noncomputable def envLa (L:Addr):Env:=callEnvC (lawFd 16 "_law_above" 308) L 309
noncomputable def laR (w:World) (rows:List (Str×Sg)) (y:Str) (a1:Addr) (z:List Str×List Str×Addr) (tl:Rho):Rho:=
 (some ("by_name" : Str),dat w.params (.dct (entL rows)))::(some ("name" : Str),dat w.params (.str y))::(some ("found" : Str),own w.params a1 (z.1.map .str))::(some ("waiting" : Str),own w.params z.2.2 (z.2.1.map .str))::tl
set_option maxHeartbeats 1000000 in
theorem c_labove {rows:List (Str×Sg)} (hc:Clo rows) (hlt:rows.length < 64) {y:Str} {t:Sg} (ht:look rows y=some t) {G:Fz} {s:Shared} {vs:List Value} (i:Inn G s.heap) (b:Bs w G) (r:RepL w.params G vs [.dct (entL rows),.str y]) :
  Op w (n+2) [] G s (call (.ref 309) vs) (KL w (fun l=>∃ r:List Str,l=r.map .str∧sortedS r=true∧r.Nodup∧r.length < 64∧(∀ u∈r,PyData.strOk u=true)∧∀ o,o∈r↔Reach (upOf rows) t.up o) s):=by
 refine op_dat ff_labove ["by_name","name"] (bind2 fun _ _=>rfl) (by decide) (by decide +kernel) i b r rfl ?_
 rintro env A s₁ Q E rfl a c kk
 change St w (envLa _) _ _ _ _ _ _ at c
 change wpAny _ _ (execs _ (envLa _)) _ _ _
 have hdom:=c.step.dom
 generalize s.heap.objs.size=L at c ⊢
 have c':St w (envLa L) G s [] [(some ("by_name" : Str),dat w.params (.dct (entL rows))),(some ("name" : Str),dat w.params (.str y))] G s₁:=c
 have sm:t.up.length+1≤10000:=by
  have hs:=hc.small
  have:∀ rows:List (Str×Sg),look rows y=some t→t.up.length+1≤((rows.map fun p=>p.2.up.length+1).sum):=by
   intro rows
   induction rows with
   | nil=>intro h;cases h
   | cons p rows ih=>
    intro h
    unfold look at h
    simp only [List.map_cons,List.sum_cons]
    by_cases q:p.1=y
    ·simp [q] at h;rw [h];exact qa
    ·have:=ih (by unfold look;simpa [List.find?_cons,q] using h);omega
  have:=this rows ht
  exact q2 ‹_› ‹_›
 have hby:∀ {ρ':Rho} {e:PySem.Expr} {p1 p2:Pos} {u:Str} {t':Sg},(some ("by_name" : Str),dat w.params (.dct (entL rows)))∈ρ'→Ev w (envLa L) (n+1) [] ρ' e (fun d=>d=.str u)→look rows u=some t'→(∀ a b c,e≠.Slice a b none c)→Ev w (envLa L) (n+1) [] ρ' (.Subscript (.Name "by_name" p1) e p2) (fun d=>d=encS t'):=
  fun h he hu hns=>ev_sub_dct (ev_name h rfl) he (by rintro _ _ rfl rfl;exact ⟨_,_,_,rfl,rfl,entL_look hu,rfl⟩) hns
 refine st_tupB (xs:=["found","waiting"]) (P:=fun Ks=>∃ a1 a2,Ks=[own w.params a1 [],own w.params a2 (t.up.map .str)]) (ρs:=fun Ks=>match Ks with | [k1,k2]=>[(some ("by_name" : Str),dat w.params (.dct (entL rows))),(some ("name" : Str),dat w.params (.str y)),(some ("waiting" : Str),k2),(some ("found" : Str),k1)] | _=>[]) a c'
  (trsO_cons (P1:=fun K=>∃ a l,K=own w.params a l∧l=[]) (EvL.o (evl_list (trs_nil rfl))) fun K v ⟨a1,l,e,e2⟩=>trsO_cons (P1:=fun K=>∃ a l,K=own w.params a l∧l=t.up.map .str) (EvO.under (EvL.o ?wt)) fun K2 v2 ⟨a2,l2,e3,e4⟩=>trsO_nil ⟨a1,a2,by rw [e,e2,e3,e4]⟩) rfl rfl (Nat.le_of_ble_eq_true rfl) rfl
  (.inr ⟨.bind (.inl rfl) (.bind (.inl rfl) .nil),rfl,?_⟩) ?_
 case wt=>exact ev_direct (hc.oks _ _ ht).2 (evv_glob rfl (by rfl) rfl rfl) (hby (.head _) (ev_name mh1 rfl) ht (fun _ _ _ h=>nomatch h))
 ·rintro Ks ⟨a1,a2,rfl⟩
  exact .cons (.skip (by decide) (.skip (by decide) .new)) (.cons (.skip (by decide) (.skip (by decide) (.skip (by decide) .new))) .nil)
 rintro Ks G1 s1 ⟨a1,a2,rfl⟩ c1
 have c1:St w (envLa L) G s [] (laR w rows y a1 ([],t.up,a2) []) G1 s1:=c1.perm (((List.Perm.swap _ _ _).cons _).cons _)
 refine st_while (N:=[]) (X:=List Str×List Str×Addr) a noN (fun z=>mu rows z.1 z.2.1) (fun z=>AbI rows t.up (z.1,z.2.1)∧(∀ u∈z.2.1,∃ t',look rows u=some t')∧(∀ u∈z.1,u∈keys rows)∧z.1.length+mu rows z.1 z.2.1≤20000∧(∀ u∈z.1,PyData.strOk u=true)∧∀ u∈z.2.1,PyData.strOk u=true)
  (fun z=>laR w rows y a1 z []) (fun z=>!z.2.1.isEmpty) ([],t.up,a2) c1 ⟨⟨.nil,fun y hy=>hy.elim (fun h=>nomatch h) fun h=>.here h,fun y hy=>.inr hy,fun _ h=>nomatch h⟩,hc.ups y t ht,(fun _ h=>nomatch h),by rw [mu_nil];have:=hc.small;simp;omega,(fun _ h=>nomatch h),(hc.oks y t ht).1⟩ ?_ ?_ ?_
 ·rintro ⟨f,ws,a2⟩ ⟨_,_,_,_,_,hok⟩
  refine tr_neR (P1:=fun d=>d=.lst (ws.map .str)) (P2:=fun d=>d=.lst []) (EvS.r (P:=fun l=>l=ws.map .str) 1 (evs_own mh3 rfl) (fun l h=>by subst h;exact ⟨strs_flat hok 1,rfl⟩)) (EvS.r (P:=fun l=>l=[]) 1 (EvL.evs (evl_list (trs_nil rfl))) (fun l h=>by subst h;exact ⟨rfl,rfl⟩)) ?_
  rintro _ _ rfl rfl
  show (!PyData.eqvAll _ _)=_
  rw [toPys,eqv_nil]
  cases ws<;>rfl
 ·rintro ⟨f,ws0,a2⟩ G2 s2 ⟨hI,hk,hfk,hb,hf,hw⟩ hne c2
  dsimp only at hI hk hfk hb hf hw hne
  obtain ⟨ws,o,rfl⟩:∃ ws o,ws0=ws++[o]:=by
   rcases List.eq_nil_or_concat ws0 with e | ⟨ws,o,e⟩
   ·rw [e] at hne;simp at hne
   ·exact ⟨ws,o,by simpa using e⟩
  obtain ⟨t',ht'⟩:=hk o (by simp)
  rw [mu_swap] at hb
  have hmu:mu rows f ws+1=mu rows f (o::ws):=by simp [mu];rfl
  have hlw:ws.length+1≤20000:=by simp [mu] at hb;omega
  have hel:((ws++[o]).map D.str).eraseIdx ws.length=ws.map .str:=by
   rw [List.map_append,List.eraseIdx_append_of_length_le (by simp)];simp
  have hgt:((ws++[o]).map D.str)[ws.length]? = some (.str o):=by simp
  refine st_pop (o:=.Name "waiting" _) (j:=ws.length) (d:=.str o) (l:=a2) (ds:=(ws++[o]).map .str) (K:=own w.params a2 ((ws++[o]).map .str)) (K':=own w.params a2 (ws.map .str)) (nm:=some "waiting") (ρ1:=laR w rows y a1 (f,ws,a2) []) (ρ':=laR w rows y a1 (f,ws,a2) [(some ("one" : Str),dat w.params (.str o))]) a c2 (evv_own mh3 rfl) (.tail (.tail (.tail .head))) (by rw [hel];exact lkO) (by simp;exact q6 ‹_›) hgt (.inl ⟨rfl,by simp⟩)
   (.skip (by decide) (.skip (by decide) (.skip (by decide) (.skip (by decide) .new)))) rfl (.inl rfl) ?_
  intro G3 s3 c3
  have ho:PyData.strOk o=true:=hw o (by simp)
  have hone:∀ {ρ':Rho} {p1},(some ("one" : Str),dat w.params (.str o))∈ρ'→Ev w (envLa L) (n+1) [] ρ' (.Name "one" p1) (fun d=>d=.str o):=fun h=>ev_name h rfl
  refine st_ifN a noN c3 (p:=o∈f) (tr_notIn (P1:=fun d=>d=.str o) (P2:=fun ss=>ss=f) (hone mh4) (EvS.ss (evs_own (x:="found") (a:=a1) (ds:=f.map .str) mh2 rfl) fun l h=>⟨f,h,hf,rfl⟩) (by rintro _ _ rfl rfl;exact ⟨o,rfl,ho,rfl⟩)) (fun G4 s4 hin c4=>?neg166) (fun G4 s4 hin c4=>?pos166)
  rotate_left
  ·
   refine st_nil (st_nil ⟨(f,ws,a2),G4,by show mu rows f ws < mu rows f (ws++[o]);rw [mu_swap];exact Nat.le_refl _,⟨hI.old hin,fun u hu=>hk u (by simp [hu]),hfk,by show f.length+mu rows f ws≤_;exact q6 ‹_›,hf,fun u hu=>hw u (by simp [hu])⟩,?_⟩)
   exact c4.sub (List.sublist_append_left [_,_,_,_] [_])
  ·
   have hm2:=mu_new (f:=f) (ws:=ws) ht' hin
   have hlu:(ws++t'.up).length≤20000:=by simp only [mu] at hm2 hb;omega
   refine st_app (o:=.Name "found" _) (l:=a1) (ds:=f.map .str) (Ks:=fun d=>own w.params a1 (f.map .str++[d])) (P:=fun d=>d=.str o) a c4 (evv_own mh2 rfl) (fun d=>.tail (.tail .head)) (fun d=>lkO) (hone mh4) (by simp;simp only [mu] at hb;exact ql ‹_›) ?_
   rintro d G5 s5 rfl c5
   have e1:f.map D.str++[.str o]=(f++[o]).map .str:=by simp
   rw [e1] at c5
   have hu:upOf rows o=t'.up:=by unfold upOf;rw [ht']
   refine st_own a noN c5 (evl_add (P1:=fun l'=>l'=ws.map .str) (P2:=fun l'=>l'=t'.up.map .str) (P:=fun l'=>l'=(ws++t'.up).map .str)
    (evs_own mh3 rfl)
    (EvL.evs (ev_direct (hc.oks _ _ ht').2 (evv_glob rfl (by rfl) rfl rfl) (hby (.head _) (hone mh4) ht' (fun _ _ _ h=>nomatch h))))
    (by rintro _ _ rfl rfl;exact ⟨by simp at hlu ⊢;exact q1 ‹_›,by simp⟩))
    (ρ':=fun al l=>[(some ("by_name" : Str),dat w.params (.dct (entL rows))),(some ("name" : Str),dat w.params (.str y)),(some ("found" : Str),own w.params a1 ((f++[o]).map .str)),(some ("waiting" : Str),own w.params al l),(some ("one" : Str),dat w.params (.str o))]) (fun al l=>.skip (by decide) (.skip (by decide) (.skip (by decide) .hit))) rfl (.inl rfl) ?_
   rintro al _ G6 s6 rfl hnew6 c6
   refine st_nil (st_nil ⟨(f++[o],ws++t'.up,al),G6,by show mu rows (f++[o]) (ws++t'.up) < mu rows f (ws++[o]);rw [mu_swap];exact Nat.le_of_lt ‹_›,⟨by rw [← hu];exact hI.new hin,fun u hu=>?_,fun u hu=>?_,?_,fun u hu=>?_,fun u hu=>?_⟩,c6.sub (List.sublist_append_left [_,_,_,_] [_])⟩)
   ·rcases List.mem_append.mp hu with h | h
    ·exact hk u (by simp [h])
    ·exact hc.ups o t' ht' u h
   ·rcases List.mem_append.mp hu with h | h
    ·exact hfk u h
    ·rw [List.mem_singleton.mp h];exact look_in_keys ht'
   ·show (f++[o]).length+mu rows (f++[o]) (ws++t'.up)≤20000
    simp only [List.length_append,List.length_cons,List.length_nil];omega
   ·rcases List.mem_append.mp hu with h | h
    ·exact hf u h
    ·rw [List.mem_singleton.mp h];exact ho
   ·rcases List.mem_append.mp hu with h | h
    ·exact hw u (by simp [h])
    ·exact (hc.oks o t' ht').1 u h
 ·rintro ⟨f,ws,a2⟩ G2 s2 ⟨hI,hk,hfk,hb,hf,hw⟩ hne c2
  dsimp only at hI hk hfk hb hf hw hne
  have:ws=[]:=by simpa using hne
  subst this
  have hfl:f.length < 64:=by
   have:=hI.nd.length_le_of_subset (l₂:=keys rows) fun u hu=>hfk u hu
   simp only [keys,List.length_map] at this
   omega
  refine st_ret a noN c2 (K:=KL w (fun l=>∃ r:List Str,l=r.map .str∧sortedS r=true∧r.Nodup∧r.length < 64∧(∀ u∈r,PyData.strOk u=true)∧∀ o,o∈r↔Reach (upOf rows) t.up o)) (evl_sorted (evv_blt rfl (by rfl) rfl rfl rfl rfl) (evs_own (a:=a1) (ds:=f.map .str) mh2 rfl) (fun v G s i ⟨ad,vs,m,l,e,hg,r,hl⟩=>⟨ad,vs,m,f,e,hg,by rw [← hl];exact r,hfl,fun ss' hp hso=>⟨ss',rfl,hso,(hp.nodup_iff).mpr hI.nd,by rw [hp.length_eq];exact hfl,fun u hu=>hf u (hp.mem_iff.mp hu),fun o=>by rw [hp.mem_iff];exact hI.done o⟩⟩)) fun v G' s' y z q=>kk (.ret v) G' s' z.step (q.early c2.step.dom)
end Mine
end
section
namespace Mine
variable {w:World} {env:Env} {n:Nat} {N:List Addr} {ρ:Rho} {ad:Addr} {cs:List D} {B B' B'':Nat}
noncomputable def grpD (f:Fd):D:=.tup [.str f.field,.str f.name,.int f.group]
noncomputable def envGp (L:Addr):Env:=callEnvC (lawFd 17 "_law_groups" 313) L 314
noncomputable def gpR (w:World) (rows:List (Str×Sg)) (order:List Str) (a1:Addr) (acc:List D) (g:Nat) (tl:Rho):Rho:=
 (some ("by_name" : Str),dat w.params (.dct (entL rows)))::(some ("order" : Str),dat w.params (.lst (order.map .str)))::(some ("found" : Str),own w.params a1 acc)::(some ("many" : Str),dat w.params (.int (g:Int)))::tl
set_option maxHeartbeats 1000000 in
theorem c_groups {rows:List (Str×Sg)} {order:List Str} (hok:∀ y∈order,∃ t,look rows y=some t)
  (hlen:(numbered 0 (declsOf rows order)).length≤10000) (hd:∀ p∈rows,p.2.decls.length≤1000∧∀ d∈p.2.decls,d.fields.length≤1000) {G:Fz} {s:Shared} {vs:List Value} (i:Inn G s.heap) (b:Bs w G) (r:RepL w.params G vs [.dct (entL rows),.lst (order.map .str)]) :
  Op w (n+1) [] G s (call (.ref 314) vs) (KL w (fun l=>l=(numbered 0 (declsOf rows order)).map grpD) s):=by
 refine op_dat ff_groups ["by_name","order"] (bind2 fun _ _=>rfl) (by decide) (by decide +kernel) i b r rfl ?_
 rintro env A s₁ Q E rfl a c kk
 change St w (envGp _) _ _ _ _ _ _ at c
 change wpAny _ _ (execs _ (envGp _)) _ _ _
 generalize s.heap.objs.size=L at c ⊢
 have c':St w (envGp L) G s [] [(some ("by_name" : Str),dat w.params (.dct (entL rows))),(some ("order" : Str),dat w.params (.lst (order.map .str)))] G s₁:=c
 refine st_tupB (xs:=["found","many"]) (P:=fun Ks=>∃ a1,Ks=[own w.params a1 [],dat w.params (.int 0)]) (ρs:=fun Ks=>match Ks with | [k1,k2]=>[(some ("by_name" : Str),dat w.params (.dct (entL rows))),(some ("order" : Str),dat w.params (.lst (order.map .str))),(some ("found" : Str),k1),(some ("many" : Str),k2)] | _=>[]) a c'
  (trsO_cons (P1:=fun K=>∃ a l,K=own w.params a l∧l=[]) (EvL.o (evl_list (trs_nil rfl))) fun K v ⟨a1,l,e,e2⟩=>trsO_cons (P1:=fun K=>∃ d,K=dat w.params d∧d=.int 0) (EvO.under (Ev.o (ev_int (k:=0) (pos:=⟨200,23,200,24⟩)))) fun K2 v2 ⟨d2,e3,e4⟩=>trsO_nil ⟨a1,by rw [e,e2,e3,e4]⟩) rfl rfl (Nat.le_of_ble_eq_true rfl) rfl
  (.inl ⟨.name (.inl rfl) (.name (.inr ⟨rfl,rfl,rfl⟩) .nil),rfl,rfl,?_⟩) ?_
 ·rintro Ks ⟨a1,rfl⟩
  exact .cons (.skip (by decide) (.skip (by decide) .new)) (.cons (.skip (by decide) (.skip (by decide) (.skip (by decide) .new))) .nil)
 rintro Ks G1 s1 ⟨a1,rfl⟩ c1
 refine wpAny_execs_cons (st_for (N:=[]) (Pds:=fun l=>l=order.map .str) a noN c1 (ite_lst (ev_name (d:=.lst (order.map .str)) mh1 rfl) fun d h=>⟨_,h,rfl⟩)
  (fun _ i=>gpR w rows order a1 ((numbered 0 (declsOf rows (order.take i))).map grpD) (groupsUp (declsOf rows (order.take i))) []) (fun ds G' s' K h c=>c) ?turn ?done)
 case done=>
  rintro ds G2 s2 rfl c2
  rw [List.length_map,List.take_length] at c2
  refine st_retO (x:="found") (a1:=a1) (l:=(numbered 0 (declsOf rows order)).map grpD) a c2 mh2 (fun h=>nomatch h) rfl fun v G' s' z hv=>kk (.ret v) G' s' z.step hv
 case turn=>
  rintro ds i d v' G2 s2 K rfl hdi hr c2
  rw [List.getElem?_map] at hdi
  obtain ⟨y,hy,rfl⟩:=Option.map_eq_some_iff.mp hdi
  obtain ⟨t,ht⟩:=hok y (List.mem_of_getElem? hy)
  have htk:order.take (i+1)=order.take i++[y]:=by rw [List.take_add_one,hy];rfl
  have hda:declsAt rows y=t.decls:=by unfold declsAt;rw [ht]
  obtain ⟨hd1,hd2⟩:=hd _ (mem_of_look ht)
  refine st_name c2 hr (.skip (fun e=>nomatch e) (.skip (by decide) (.skip (by decide) (.skip (by decide) (.skip (by decide) .new))))) rfl (.inr ⟨rfl,rfl,rfl⟩) fun s3 c3=>?_
  have hfull:∀ j,(numbered 0 (declsOf rows (order.take i)++(t.decls.take j).map (y,·))).length≤10000:=fun j=>by
   have h1:declsOf rows order=declsOf rows (order.take i)++((t.decls.take j).map (y,·)++((t.decls.drop j).map (y,·)++declsOf rows (order.drop (i+1)))):=by
    conv=>lhs;rw [← List.take_append_drop (i+1) order]
    have:declsOf rows (order.take (i+1)++order.drop (i+1))=declsOf rows (order.take (i+1))++declsOf rows (order.drop (i+1)):=by unfold declsOf;rw [List.flatMap_append]
    rw [this,htk,declsOf_snoc,hda]
    simp only [List.append_assoc]
    rw [← List.append_assoc (List.map (fun x=>(y,x)) (List.take j t.decls)),← List.map_append,List.take_append_drop]
   rw [h1,← List.append_assoc] at hlen
   exact Nat.le_trans numbered_len hlen
  refine wpAny_execs_cons (st_for (N:=[]) (Pds:=fun l=>l=t.decls.map encDc) a noN c3 (ite_tup (pu_tup (d:=.tup (t.decls.map encDc)) (ev_sub_dct (P:=fun x=>x=encS t) (ev_name (d:=.dct (entL rows)) mh1 rfl) (ev_name (d:=.str y) mh5 rfl) (by rintro _ _ rfl rfl;exact ⟨_,_,_,rfl,rfl,entL_look ht,rfl⟩)) (by simp) rfl) fun d h=>⟨_,h,rfl⟩)
   (fun _ j=>(none,K)::gpR w rows order a1 ((numbered 0 (declsOf rows (order.take i)++(t.decls.take j).map (y,·))).map grpD) (groupsUp (declsOf rows (order.take i)++(t.decls.take j).map (y,·))) [(some ("name" : Str),dat w.params (.str y))]) (fun ds G' s' K h c=>by simp only [List.take_zero,List.map_nil,List.append_nil];exact c) ?turn2 ?done2)
  case done2=>
   rintro ds G4 s4 rfl c4
   rw [List.length_map,List.take_length,← hda,← declsOf_snoc,← htk] at c4
   refine st_nil ⟨G4,c4.sub (((List.sublist_append_left [_,_,_,_] [_]).cons_cons _))⟩
  case turn2=>
   rintro ds j d v2 G4 s4 K2 rfl hdj hr2 c4
   rw [List.getElem?_map] at hdj
   obtain ⟨dd,hdd,rfl⟩:=Option.map_eq_some_iff.mp hdj
   have htk2:t.decls.take (j+1)=t.decls.take j++[dd]:=by rw [List.take_add_one,hdd];rfl
   have hfl:=hd2 dd (List.mem_of_getElem? hdd)
   have hf1:=hfull (j+1)
   rw [htk2,List.map_append,← List.append_assoc] at hf1 ⊢
   generalize hB:declsOf rows (order.take i)++(t.decls.take j).map (y,·)=B at c4 hf1 ⊢
   rw [numbered_append,groupsUp_append]
   rw [numbered_append] at hf1
   simp only [Nat.zero_add] at hf1 ⊢
   generalize hg:groupsUp B=g at c4 hf1 ⊢
   generalize hA:numbered 0 B=acc at c4 hf1 ⊢
   have hnum:numbered g (List.map (y,·) [dd])=dd.fields.map (fdOf g y dd):=by simp [numbered,fdOf]
   have hgu:groupsUp (List.map (y,·) [dd])=if dd.disj then 1 else 0:=by simp [groupsUp]
   rw [hnum] at hf1 ⊢
   rw [hgu]
   have hf2:acc.length+dd.fields.length≤10000:=by simpa using hf1
   refine st_name c4 hr2 (.skip (fun e=>nomatch e) (.skip (fun e=>nomatch e) (.skip (by decide) (.skip (by decide) (.skip (by decide) (.skip (by decide) (.skip (by decide) .new))))))) rfl (.inr ⟨rfl,rfl,rfl⟩) fun s5 c5=>?_
   have hdecl:∀ {env':Env} {ρ':Rho} {k:Nat} {kk p1 p2 p3} {x:D},(some ("decl" : Str),dat w.params (encDc dd))∈ρ'→env'.scope.kind=.function→[D.int dd.spot,.bool dd.disj,.tup (dd.fields.map .str),.str "",.tup [.str "name",.int 0,.str "A"]][k]? = some x→Ev w env' n [] ρ' (.Subscript (.Name "decl" p1) (.Constant (.int (k:Int)) kk p2) p3) (fun y=>y=x):=
    fun h hk hx=>pu_tup (l:=[D.int dd.spot,.bool dd.disj,.tup (dd.fields.map .str),.str "",.tup [.str "name",.int 0,.str "A"]]) (ev_name (d:=encDc dd) h hk) (by simp) hx
   refine st_ext (o:=.Name "found" _) (l:=a1) (ds:=acc.map grpD) (Ks:=fun d=>own w.params a1 (acc.map grpD++d)) (P:=fun l=>l=dd.fields.map fun f=>grpD (fdOf g y dd f)) a c5 (evv_own mh4 rfl) (fun d=>.tail (.tail (.tail (.tail .head)))) (fun d=>lkO)
    (EvL.evs (evl_comp1 (Pds:=fun ds=>ds=dd.fields.map .str) (cl:=[("name",L+2),("many",L+1),("decl",L+3)])
     [(some ("many" : Str),dat w.params (.int (g:Int))),(some ("name" : Str),dat w.params (.str y)),(some ("decl" : Str),dat w.params (encDc dd))]
     (fun d=>[(some ("many" : Str),dat w.params (.int (g:Int))),(some ("name" : Str),dat w.params (.str y)),(some ("decl" : Str),dat w.params (encDc dd)),(some ("field" : Str),dat w.params d)])
     (fun _=>true) (fun d r=>r=.tup [d,.str y,.int (if dd.disj then (g:Int) else -1)])
     (ite_tup (hdecl (k:=2) mh7 rfl rfl) fun d h=>⟨_,h,rfl⟩)
     rfl (by decide) rfl (by decide) ?hcl (fun _=>by simp) ?hcap (fun _ h=>nomatch h) ?hasg (fun d=>List.sublist_append_left [_,_,_] [_]) (fun _ _ _ _ _ _ _=>.none) ?helt ?hP)) (by rintro d rfl;simp;exact q1 ‹_›) ?_
   case hcl=>
    intro y cc h
    simp only [List.lookup_cons,List.lookup_nil] at h
    split at h
    ·cases h;exact ⟨"name",rfl⟩
    ·split at h
     ·cases h;exact ⟨"many",rfl⟩
     ·split at h
      ·cases h;exact ⟨"decl",rfl⟩
      ·cases h
   case hcap=>exact .drop (.drop (.drop (.drop (.drop (.var (.inl rfl) rfl (by first | exact .inl rfl | exact .inr rfl) (.var (.inl rfl) rfl (by first | exact .inl rfl | exact .inr rfl) (.var (.inl rfl) rfl (by first | exact .inl rfl | exact .inr rfl) .nil)))))))
   case hasg=>
    rintro C K1 K2 A E G₀ s₀ G s ds d v aa rfl hd hr cc
    exact st_name cc hr (.skip (fun h=>nomatch h) (.skip (fun h=>nomatch h) (.skip (by decide) (.skip (by decide) (.skip (by decide) .new))))) rfl (.inl rfl) fun s' c'=>⟨_,c'⟩
   case helt=>
    rintro C K1 K2 ds d rfl hd hpd
    refine ev_tupQ (mq (ev_name mh5 rfl) (mq (ev_name mh3 rfl) (mq ?_ mq_nil)))
    refine ev_if (P1:=fun b=>b=dd.disj) (tr_bool ((hdecl (k:=1) (x:=.bool dd.disj) mh4 rfl rfl).mono fun _ _ _ _ _ ⟨d,r,e⟩=>⟨d,r,_,e,rfl⟩)) (fun h=>?_) (fun h=>?_)
    ·have h':dd.disj=true:=h.symm
     refine EvK.mono (ev_name (d:=.int (g:Int)) mh2 rfl) fun _ _ _ _ _ ⟨d,r,e⟩=>⟨d,r,?_⟩
     rw [e];simp [h']
    ·have h':dd.disj=false:=h.symm
     refine EvK.mono ev_neg1 fun _ _ _ _ _ ⟨d,r,e⟩=>⟨d,r,?_⟩
     rw [e];simp [h']
   case hP=>
    rintro ds l rfl
    refine ⟨by simp;exact q1 ‹_›,fun h=>?_⟩
    have h2:=h.map (f:=fun d=>.tup [d,.str y,.int (if dd.disj then (g:Int) else -1)])
    rw [h2,List.filter_eq_self.mpr (fun _ _=>rfl),List.map_map];rfl
   rintro d G6 s6 rfl c6
   have e1:acc.map grpD++(dd.fields.map fun f=>grpD (fdOf g y dd f))=(acc++dd.fields.map (fdOf g y dd)).map grpD:=by simp
   rw [e1] at c6
   refine st_asg (P:=fun d=>d=.int ((g+(if dd.disj then 1 else 0):Nat):Int)) a noN c6 (ev_add_int (P1:=fun d=>d=.int (g:Int)) (P2:=fun d=>d=.int (if dd.disj then 1 else 0)) (ev_name mh5 rfl) (ev_int_bool (P1:=fun d=>d=.bool dd.disj) (evv_blt rfl (by rfl) rfl rfl rfl rfl) (hdecl (k:=1) mh7 rfl rfl) (by exact fun _ a=>⟨_,a,rfl⟩)) (by exact fun _ _ a b=>⟨_,_,a,b,by cases dd.disj<;>simp⟩))
    (ρ':=fun d=>(none,K2)::(none,K)::[(some ("by_name" : Str),dat w.params (.dct (entL rows))),(some ("order" : Str),dat w.params (.lst (order.map .str))),(some ("found" : Str),own w.params a1 ((acc++dd.fields.map (fdOf g y dd)).map grpD)),(some ("many" : Str),dat w.params d),(some ("name" : Str),dat w.params (.str y)),(some ("decl" : Str),dat w.params (encDc dd))])
    (fun d=>.skip (fun e=>nomatch e) (.skip (fun e=>nomatch e) (.skip (by decide) (.skip (by decide) (.skip (by decide) .hit))))) rfl (.inr ⟨rfl,rfl,rfl⟩) ?_
   rintro d G7 s7 rfl c7
   exact st_nil ⟨G7,c7.sub (List.sublist_append_left [_,_,_,_,_,_,_] [_])⟩
end Mine
end
section
namespace Mine
variable {w:World} {env:Env} {n:Nat} {N:List Addr} {ρ:Rho} {ad:Addr} {cs:List D} {B B' B'':Nat}
theorem keys_miss_list:typeLookup (.type "list") "keys" = pure none:=by rw [typeLookup_type,builtinLookup_eq_fast];kernel_rfl
theorem keys_none {A:Around} {E:Value→Shared→Prop} {Q:Option Value→Shared→Prop} {s:Shared} {a:Addr} {vs:Array Value} {m:Nat} (hx:s.heap.get? a=some (lstO vs m)) (hA:A.handled=none)
  (h:∀ h' tk,(∀ b o,s.heap.get? b=some o→h'.get? b=some o)→Q none {s with heap:=h',toks:=tk}):wpAny (model pw w) A (getAttr? (.ref a) "keys") Q E s:=by
 obtain ⟨hp,g,d,tk,os⟩:=s
 have hT:∀ tk',(⟨hp,g,d,tk',os⟩:Shared).TypeIs (.ref a) "list":=fun _=>⟨_,hx,rfl⟩
 have f1:=sub_AttributeError
 have f3:=F.slot_list_getattribute.lookup
 have f4:=F.slot_list_getattribute.bind (.ref a)
 have f5:=am_list_getattr_none
 unfold getAttr? getAttrBy? getAttrBy
 repeat (any_goals (first | assumption | exact hT _ | ((with_reducible show wpAny _ _ (call (Value.builtin "list.__getattribute__") _ _) _ _ _);refine call_meets F.slot_list_getattribute (hT _) am_entry_list_getattribute (F.args_list_getattribute_2 _ _) (meets_getattribute_miss_list a vs m #[] "keys" _ keys_miss_list (by decide) (by size_fits)) ⟨hx,hA,fun h' tk' e hx'=>?_⟩) | wp_step))
 obtain ⟨t',u',he⟩:=hx'.there
 show wpAny _ _ (getattributeRaised _ _ _ _ _ _ _) _ _ _
 unfold getattributeRaised
 repeat (any_goals (first | assumption | wp_step))
 all_goals exact h _ _ fun b o hb=>hx'.of.keeps b o hb
end Mine
end
section
namespace Mine
variable {w:World} {env:Env} {n:Nat} {N:List Addr} {ρ:Rho} {ad:Addr} {cs:List D} {B B' B'':Nat}
noncomputable def pairD (l:List (Str×D)):List D:=l.map fun p=>.tup [.str p.1,p.2]
theorem plain_upd:plainId "dict.update.loop" = true:=by decide +kernel
theorem entry_upd:entryFor table "dict.update.loop" = some Builtin.«dict.update.loop»:=entryFor_of_fast (by kernel_rfl)
inductive PairAt (w:World) (G:Fz) (l:List (Str×D)) (i:Nat) (v:Value):Prop
 | mk (p:Str×D) (ap:Addr) (vp:Array Value) (mp:Nat) (t:Tok) (v2:Value):l[i]? = some p→v=.ref ap→G ap=some (tupO vp mp)→vp.toList=[.str p.1 t,v2]→Rep w.params G v2 p.2→PairAt w G l i v
theorem pair_at {G:Fz} {vs:List Value} {l:List (Str×D)} {i:Nat} {v:Value} (r:RepL w.params G vs (pairD l)) (hp:vs[i]? = some v):PairAt w G l i v:=by
 obtain ⟨dd,hdd,rv⟩:=r.get' (k:=i) (v:=v) hp
 obtain ⟨p,hpl,rfl⟩:∃ p,l[i]? = some p∧D.tup [.str p.1,p.2]=dd:=by
  unfold pairD at hdd
  rw [List.getElem?_map] at hdd
  exact Option.map_eq_some_iff.mp hdd
 obtain ⟨ap,vp,mp,rfl,hgp,rp⟩:=rv.inv
 obtain ⟨vl,hvl⟩:∃ x,vp.toList=x:=⟨_,rfl⟩
 rw [hvl] at rp
 obtain ⟨v1,l1,rfl,r1,rp1⟩:=rp.inv
 obtain ⟨v2,l2,rfl,r2,rp2⟩:=rp1.inv
 obtain ⟨_,rfl⟩:=rp2.inv
 obtain ⟨t,rfl⟩:=r1.inv
 exact ⟨p,ap,vp,mp,t,v2,hpl,rfl,hgp,hvl,r2⟩
theorem loop_dict {a I d:Addr} {vs:Array Value} {l:List (Str×D)} {G:Fz} {A:Around} (hA:A.handled=none) (hI:I≠a) (hdI:d≠I) (hda:d≠a) (hGI:G I=none) (hGd:G d=none) (nd:(l.map (·.1)).Nodup) (hlen:l.length≤10000) (r:RepL w.params G vs.toList (pairD l)) :
  ∀ (k i:Nat) (s:Shared) (R:Result→Shared→Prop),l.length - i=k→i≤l.length→Inn G s.heap→s.heap.IsListIter I a i→s.heap.IsList a vs→DctAt w G s.heap d (l.take i)→
  (∀ h' tk,(∀ b o,b≠I→b≠d→s.heap.get? b=some o→h'.get? b=some o)→DctAt w G h' d l→R (.ok (.ret .none)) {s with heap:=h',toks:=tk})→
  codeAny (model pw w) A (.builtin "dict.update.loop" ⟨[.ref d,.ref I,rawInt i,.none],[]⟩) R s:=by
 have hvl:vs.size=l.length:=by have:=r.arr;simpa [pairD] using this
 have W:=Walks.list (prog:=pw) (w:=w) (A:=A.in1) hA I a (Ne.symm hI) vs
 intro k
 induction k with
 | zero=>
  intro i s R hk hi inn hit hl hd hR
  have hin:i=vs.size:=by omega
  subst hin
  refine codeAny_builtin entry_upd ?_
  rw [Around.under_plainId plain_upd _]
  show wpAny _ A.in1 (pyNext (.ref I) >>= _) _ _ s
  refine wpAny_bind (W.done s _ _ ⟨hit,hl⟩ fun h' tk hkp=>?_)
  have kp:∀ b o,b≠I→s.heap.get? b=some o→h'.get? b=some o:=fun b o hb e=>hkp b o (fun q=>hb (List.mem_singleton.mp q)) e
  refine wpAny_bind (wpAny_pure (wpAny_pure (hR h' tk (fun b o hb _ e=>kp b o hb e) ?_)))
  have hd:=hd.to Le.rfl (fun o e=>kp d o hdI e)
  rwa [List.take_of_length_le (Nat.le_of_eq hvl.symm)] at hd
 | succ k ih=>
  intro i s R hk hi inn hit hl hd hR
  have hlt:i < vs.size:=by omega
  refine codeAny_builtin entry_upd ?_
  rw [Around.under_plainId plain_upd _]
  show wpAny _ A.in1 (pyNext (.ref I) >>= _) _ _ s
  refine wpAny_bind (W.item i s _ _ hlt ⟨hit,hl⟩ fun v h1 tk1 hp hst hkp=>?_)
  have kp:∀ b o,b≠I→s.heap.get? b=some o→h1.get? b=some o:=fun b o hb e=>hkp b o (fun q=>hb (List.mem_singleton.mp q)) e
  have inn1:Inn G h1:=fun b o e=>kp b o (fun q=>by rw [q,hGI] at e;cases e) (inn b o e)
  obtain ⟨p,ap,vp,mp,t,v2,hpl,rfl,hgp,hvl2,r2⟩:=pair_at r (by simpa using hp)
  have hop:=inn1 _ _ hgp
  show wpAny _ A.in1 (holding [.ref ap] _ >>= _) _ _ _
  refine wpAny_bind (wpAny_holding (wpAny_bind (wpAny_tryCatch ?_)))
  unfold Builtin.Dict.pairItems
  refine wpAny_bind (wpAny_typeOf (T:="tuple") ⟨_,hop,rfl⟩ ?_)
  rw [if_pos (by decide)]
  unfold seqItems?
  refine wpAny_bind (wpAny_bind (wpAny_load hop (wpAny_pure (wpAny_pure ?_))))
  dsimp only
  rw [show ((some vp:Option (Array Value)).getD #[]).toList=[Value.str p.1 t,v2] from hvl2]
  obtain ⟨kv,hD,q⟩:=hd.to Le.rfl (fun o e=>kp d o hdI e)
  have hil:i < l.length:=by omega
  have htk:l.take (i+1)=l.take i++[p]:=by rw [List.take_add_one,hpl];rfl
  have hx:p.1∉(l.take i).map (·.1):=by
   have h2:((l.take (i+1)).map (·.1)).Nodup:=nd.sublist ((List.take_sublist _ _).map _)
   rw [htk,List.map_append,List.nodup_append] at h2
   exact fun hm=>h2.2.2 _ hm p.1 (by simp) rfl
  refine wpAny_holding (wpAny_dictSet_pairs (strKind_is pw w p.1 _) hD (fun h2 hD2 hsb=>?_) (by rw [q.length,sizeLine_eq,List.length_take];exact q3 ‹_›))
  rw [stored_new q hx] at hD2
  have kp2:∀ b o,b≠d→h1.get? b=some o→h2.get? b=some o:=fun b o hb e=>(hsb.2 b hb).trans e
  refine wpAny_pure ⟨plainId_quiet plain_upd _,ih (i+1) _ _ (by omega) (by omega) (fun b o e=>kp2 b o (fun q=>by rw [q,hGd] at e;cases e) (inn1 b o e)) (hst.1.at fun o e=>kp2 _ _ (Ne.symm hdI) e) (hst.2.at fun o e=>kp2 _ _ (Ne.symm hda) e) ⟨_,hD2,by rw [htk];exact q.snoc r2⟩ fun h3 tk3 hk3 hD3=>?_⟩
  exact hR h3 tk3 (fun b o hb1 hb2 e=>hk3 b o hb1 hb2 (kp2 b o hb2 (kp b o hb1 e))) hD3
theorem op_dict {G:Fz} {s:Shared} (i:Inn G s.heap) {a:Addr} {vs:Array Value} {m:Nat} {l:List (Str×D)} (hg:s.heap.get? a=some (lstO vs m)) (r:RepL w.params G vs.toList (pairD l)) (nd:(l.map (·.1)).Nodup) (hlen:l.length≤10000) :
  Op w n [] G s (call (.type "dict") [.ref a]) (KD w (fun d=>d=.dct l)):=fun A Q E ao k=>by
 refine callType_codes (Q₁:=fun obj s₁=>obj=.ref s.heap.objs.size∧s₁ = {s with heap:=s.heap.push {cls:=.type "dict",data:=.dict #[]}}) F.kt_called_dict (F.kt_typeCall_dict_1 _) F.entry_dict_init (kt_code_dict_new _ ⟨rfl,rfl⟩) ?_
 rintro obj s₁ ⟨rfl,rfl⟩
 generalize hdd:s.heap.objs.size=d
 have nD:s.heap.get? d=none:=by rw [← hdd];exact fresh_size _
 have g0:∀ b,s.heap.get? b=none→G b=none:=fun b e=>by
  cases q:G b with
  | none=>rfl
  | some o=>have:=i _ _ q;rw [e] at this;cases this
 have hnew:(s.heap.push {cls:=.type "dict",data:=.dict #[]}).DictOf (sk w) d []:=by rw [← hdd];exact Heap.DictOf.new s.heap
 have hl1:(s.heap.push {cls:=.type "dict",data:=.dict #[]}).get? a=some (lstO vs m):=Heap.get?_push_of_some _ hg
 have hda:d≠a:=fun e=>by rw [e,hg] at nD;cases nD
 refine ⟨hnew.typeIs,F.args_dict_init_2 _ _,?_⟩
 unfold Builtin.«dict.__init__»
 refine wpAny_bind ?_
 unfold Builtin.Dict.selfAndRest
 refine wpAny_bind (wpAny_notOrdered_dict hnew.typeIs ?_)
 show wpAny _ _ (pure (d,[Value.ref a])) _ _ _
 refine wpAny_pure ?_
 show wpAny _ _ (Builtin.Dict.updateFrom "dict.__init__" d (.ref a) [] .none) _ _ _
 unfold Builtin.Dict.updateFrom
 refine wpAny_bind (wpAny_typeOf (T:="list") ⟨_,hl1,rfl⟩ ?_)
 rw [if_pos (by decide)]
 refine wpAny_bind (keys_none hl1 ao.2.2 fun h2 tk2 hk2=>?_)
 have hl2:=hk2 _ _ hl1
 refine wpAny_bind (wpAny_rule ?_)
 refine wpAny_bind (wpAny_pyIter_list (items:=vs) ⟨_,hl2,rfl,m,rfl⟩ ?_)
 dsimp only
 generalize hII:h2.objs.size=I
 have hD2:h2.get? d=some (dctO #[] 0):=hk2 _ _ (by rw [← hdd];exact Heap.get?_push_size _ rfl)
 have nI:h2.get? I=none:=by rw [← hII];exact fresh_size _
 have hIa:I≠a:=fun e=>by rw [e,hl2] at nI;cases nI
 have hdI:d≠I:=fun e=>by rw [← e,hD2] at nI;cases nI
 have kps:∀ b o,s.heap.get? b=some o→h2.get? b=some o:=fun b o e=>hk2 b o (Heap.get?_push_of_some _ e)
 have nIs:s.heap.get? I=none:=by
  cases q:s.heap.get? I with
  | none=>rfl
  | some o=>rw [kps _ _ q] at nI;cases nI
 have i3:Inn G (h2.push {cls:=.type "list_iterator",data:=.fields #[.ref a,.int 0 0]}):=fun b o e=>Heap.get?_push_of_some _ (kps b o (i b o e))
 refine wpAny_pure ⟨plainId_quiet plain_upd _,loop_dict (A:=A.in1) (G:=G) (vs:=vs) (l:=l) ao.2.2 hIa hdI hda (g0 _ nIs) (g0 _ nD) nd hlen r l.length 0 _ _ rfl (Nat.zero_le _) i3 ⟨_,by rw [← hII];exact Heap.get?_push_size _ rfl,rfl,rfl⟩ ⟨_,Heap.get?_push_of_some _ hl2,rfl,m,rfl⟩ ⟨[],?_,by rw [List.take_zero];exact .nil⟩ fun h4 tk4 hk4 hD4=>⟨rfl,?_⟩⟩
 ·exact ⟨_,#[],0,Heap.get?_push_of_some _ hD2,⟨rfl,rfl,rfl⟩,rfl,(fun e he=>by simp at he),.nil,.nil⟩
 ·obtain ⟨es,m4,ho,hr,hnd⟩:=hD4.obj
  have y:Step G s [] G {s with heap:=h4,toks:=tk4}:=Step.of_keeps i ⟨h4,tk4,rfl,fun b o e=>hk4 b o (fun q=>by rw [q,nIs] at e;cases e) (fun q=>by rw [q,nD] at e;cases e) (Heap.get?_push_of_some _ (kps b o e))⟩
  exact k _ _ _ (y.freeze nD ho) ⟨_,.dct Fz.put_self (hr.mono (y.le_put ho)) hnd,rfl⟩
theorem ev_dict_of {x:Str} {np pos:Pos} {e:PySem.Expr} {P1:List D→Prop} {l:List (Str×D)} (hf:EvV w env n N ρ (.Name x np) (.type "dict")) (ha:EvS w env n N ρ e (fun l'=>l'=pairD l)) (nd:(l.map (·.1)).Nodup) (hlen:l.length≤10000) (ht:backTo pos (starEach [e] env)=[(false,eval e env)]:=by rfl):Ev w env n N ρ (.Call (.Name x np) [e] [] pos) (fun d=>d=.dct l):=
 evk_type1 hf ha ht (fun _ _ _ _ _ x _=>x) fun G s v i _ ⟨a,vs,m,l',e1,hg,r,p⟩=>by
  subst e1;subst p
  exact op_dict i hg r nd hlen
theorem rows_pairD (rows:List (Str×Sg)):rows.map rowD=pairD (entL rows):=by unfold pairD entL;rw [List.map_map];rfl
theorem ev_byname {e:PySem.Expr} {p1 p2 p3 p4:Pos} {its:List Im} (hl:its.length≤1000) (hn:∀ t∈sigsOf its,t.names.length≤900) (nd:(keys (rowsS (sigsOf its))).Nodup) (hr:(rowsS (sigsOf its)).length≤10000) (hd:EvV w env (n+1) [] ρ (.Name "dict" p1) (.type "dict")) (hf:EvV w env (n+1) [] ρ (.Name "_law_rows" p2) (.ref 290)) (he:Ev w env (n+1) [] ρ e (fun d=>d=.lst (its.map encI))) (ht:backTo p3 (starEach [e] env)=[(false,eval e env)]:=by rfl) (ht2:backTo p4 (starEach [.Call (.Name "_law_rows" p2) [e] [] p3] env)=[(false,eval (.Call (.Name "_law_rows" p2) [e] [] p3) env)]:=by rfl) :
  Ev w env (n+1) [] ρ (.Call (.Name "dict" p1) [.Call (.Name "_law_rows" p2) [e] [] p3] [] p4) (fun d=>d=.dct (entL (rowsS (sigsOf its)))):=
 ev_dict_of (P1:=fun _=>True) hd ((EvL.evs (evl_rows hl hn hf he ht)).mono fun _ _ _ _ _ ⟨a,vs,m,l,h1,h2,h3,h4⟩=>⟨a,vs,m,l,h1,h2,h3,by rw [h4,rows_pairD]⟩) (by rw [show (entL (rowsS (sigsOf its))).map (·.1)=keys (rowsS (sigsOf its)) from by unfold entL keys;rw [List.map_map];rfl];exact nd) (by unfold entL;rw [List.length_map];exact hr) ht2
end Mine
end
section
namespace Mine
variable {w:World} {env:Env} {n:Nat} {N:List Addr} {ρ:Rho} {ad:Addr} {cs:List D} {B B' B'':Nat} {its:List Im}
variable {x dx de lo lf:Addr} {fs:List (Str×Value)}
theorem tr_or3F {a b c pos} (h1:Tr w env n N ρ a (fun b=>b=false)) (h2:Tr w env n N ρ b (fun b=>b=false)) (h3:Tr w env n N ρ c (fun b=>b=false)) :
  Tr w env n N ρ (.BoolOp .Or [a,b,c] pos) (fun b=>b=false):=fun A G₀ s₀ M G s Q E ao nn cc k'=>
 PyProof.Rows.isTrue_or (h1 A G₀ s₀ M G s _ E ao nn cc fun b1 G1 s1 y1 z1 p1=>by
  subst p1
  exact PyProof.Rows.isTrue_or (h2 A G₀ s₀ M G1 s1 _ E ao nn z1 fun b2 G2 s2 y2 z2 p2=>by
   subst p2
   exact PyProof.Rows.isTrue_or (h3 A G₀ s₀ M G2 s2 _ E ao nn z2 fun b3 G3 s3 y3 z3 p3=>by
    subst p3
    exact PyProof.Rows.isTrue_or_nil (k' false G3 s3 ((y1.trans y2 fun q hq=>.inl hq).trans y3 fun q hq=>.inl hq) z3 rfl))))
theorem St.unsig {G₀ G:Fz} {s₀ s:Shared} {M:List Addr} {nm:Str} {ρ':Rho} (c:St w env G₀ s₀ M ρ G s) (sw:Swap (some nm,sigK w x dx its fs de lo lf) (some nm,inst w.params x dx 257 fs) ρ ρ') :
  St w env G₀ s₀ M ((none,entK w (rowsS (sigsOf its)) (.ref de))::(none,lstD w lo ((told (rowsS (sigsOf its))).1.map .str))::(none,lstD w lf ((ownF (rowsS (sigsOf its))).map encFd))::ρ') G s:=by
 obtain ⟨v,hv,h1,h2,h3,h4⟩:=c.vars _ sw.mem
 obtain ⟨r,g1,g2⟩:=sw.perm
 have c1:St w env G₀ s₀ M ρ' G s:=((c.perm g1).kind (K':=inst w.params x dx 257 fs) (fun v' h=>h.1) (fun _ h=>h) fun _ h=>⟨h,by show _∈[x,dx];have:=List.mem_singleton.mp h;subst this;simp⟩).perm g2.symm
 have no:∀ K:Kd,K.ow=[]→K.fp=[]→∀ {ρ2:Rho},∀ q∈ρ2,(∀ a∈K.ow,a∉q.2.fp)∧(∀ a∈q.2.ow,a∉K.fp):=fun K e1 e2 ρ2 q hq=>by rw [e1,e2];exact ⟨(fun _ h=>nomatch h),(fun _ _ h=>nomatch h)⟩
 refine ((c1.addF (K:=lstD w lf _) h4 (fun _ h=>nomatch h) (fun _ h=>nomatch h) (no _ rfl rfl)).addF (K:=lstD w lo _) h3 (fun _ h=>nomatch h) (fun _ h=>nomatch h) (no _ rfl rfl)).addF (K:=entK w _ (.ref de)) h2 (fun _ h=>nomatch h) (fun _ h=>nomatch h) (no _ rfl rfl)
theorem strs_lst {l:List Str} (h:∀ y∈l,PyData.strOk y=true):flat 2 (.lst (l.map .str))=true:=strs_flat h 1
theorem grp_flat {l:List Fd} (h:∀ f∈l,PyData.strOk f.field=true∧PyData.strOk f.name=true):flats 2 (l.map grpD)=true:=by
 induction l with
 | nil=>rfl
 | cons f r ih=>
  have h1:=h f (.head _)
  show (flat 2 (grpD f)&&flats 2 (r.map grpD))=true
  rw [ih fun g hg=>h g (.tail _ hg)]
  simp [grpD,flat,flats,h1.1,h1.2]
theorem Reach.key {rows:List (Str×Sg)} (hc:Clo rows) {y:Str} {t:Sg} (ht:look rows y=some t) {o:Str} (h:Reach (upOf rows) t.up o):o∈keys rows:=by
 generalize hw:t.up=ws at h
 induction h with
 | here h=>
  subst hw
  obtain ⟨t',ht'⟩:=hc.ups y t ht _ h
  exact look_in_keys ht'
 | @on x o _ h ih=>
  unfold upOf at h
  cases hx:look rows x with
  | none=>rw [hx] at h;cases h
  | some t'=>
   rw [hx] at h
   obtain ⟨t2,ht2⟩:=hc.ups x t' hx _ h
   exact look_in_keys ht2
noncomputable def envTn (L:Addr):Env:=callEnvC (lawFd 18 "_law_taken" 318) L 319
noncomputable abbrev hadD (t:Sg) (r:List Str):D:=.tup [.lst (r.map .str),.int t.spot,.bool (!t.sups.isEmpty)]
structure Ab64 (rows:List (Str×Sg)) (t:Sg) (r:List Str):Prop where
 so:sortedS r=true
 nd:r.Nodup
 ok:∀ u∈r,PyData.strOk u=true
 mem:∀ o,o∈r↔Reach (upOf rows) t.up o
theorem Ab64.one {rows:List (Str×Sg)} {t:Sg} {a b:List Str} (h:Ab64 rows t a) (k:Ab64 rows t b):a=b:=
 sorted_eq h.so k.so ((List.perm_ext_iff_of_nodup h.nd k.nd).mpr fun o=>(h.mem o).trans (k.mem o).symm)
theorem had_flat {t:Sg} {r:List Str} (h:∀ u∈r,PyData.strOk u=true):flat 2 (hadD t r)=true:=by
 show flats 1 _=true
 simp only [flats,flat,strs_flat h 0,Bool.and_self]
set_option maxHeartbeats 2000000 in
theorem c_taken (Tm:Tame its) (hT:Taken its) (hA:("A" : Str)∈keys (rowsS (sigsOf its))) (hZ:("Z" : Str)∉keys (rowsS (sigsOf its))) (hlt:(rowsS (sigsOf its)).length < 64) (hfo:∀ f∈ownF (rowsS (sigsOf its)),PyData.strOk f.field=true)
  {G:Fz} {s:Shared} {vs:List Value} (i:Inn G s.heap) (b:Bs w G) (r:RepL w.params G vs [.lst (its.map encI)]) :
  Op w (n+9) [] G s (call (.ref 319) vs) (KD w (fun d=>d=.bool true)):=by
 refine op_dat ff_taken ["items"] (bind1 fun _=>rfl) (by decide) (by decide +kernel) i b r rfl ?_
 rintro env A s₁ Q E rfl a c kk
 change St w (envTn _) _ _ _ _ _ _ at c
 change wpAny _ _ (execs _ (envTn _)) _ _ _
 generalize s.heap.objs.size=L at c ⊢
 have hfine:=Tm.fine hT.sig
 have hclo:=Tm.clo hT.row
 have hown:=Tm.own hT.sig
 have hil:its.length≤1000:=by have:=Tm.len;exact q1 ‹_›
 have hnl:∀ t∈sigsOf its,t.names.length≤900:=fun t ht=>by have:=(Tm.sigs t ht).names.1;exact q1 ‹_›
 have hdl:∀ p∈rowsS (sigsOf its),p.2.decls.length≤1000∧∀ d∈p.2.decls,d.fields.length≤1000:=fun p hp=>by
  have h:=(Tm.sigs _ (rowsS_mem hp).1).decls
  exact ⟨by omega,fun d hd=>by have:=(h.2 d hd).1;exact q1 ‹_›⟩
 have hord:∀ y∈(told (rowsS (sigsOf its))).1,∃ t,look (rowsS (sigsOf its)) y=some t:=fun y hy=>look_of_mem (told_sub hy)
 have hlo:(told (rowsS (sigsOf its))).1.length < 64:=Nat.lt_of_le_of_lt told_len hlt
 have hoko:∀ y∈(told (rowsS (sigsOf its))).1,PyData.strOk y=true:=fun y hy=>(hfine.okk y (told_sub hy)).1
 have hgr:∀ f∈ownF (rowsS (sigsOf its)),PyData.strOk f.field=true∧PyData.strOk f.name=true:=fun f hf=>by
  obtain ⟨t,ht⟩:=(hown.2 f hf).1
  exact ⟨hfo f hf,(hfine.okk _ (look_in_keys ht)).1⟩
 have c':St w (envTn L) G s [] [(some ("items" : Str),dat w.params (.lst (its.map encI)))] G s₁:=c
 refine st_tupB (xs:=["signatures","by_name","order"]) (P:=fun Ks=>∃ x dx fs de lo lf,SigF fs de lo lf∧Ks=[sigK w x dx its fs de lo lf,dat w.params (.dct (entL (rowsS (sigsOf its)))),dat w.params (.lst ((told (rowsS (sigsOf its))).1.map .str))])
  (ρs:=fun Ks=>match Ks with | [k1,k2,k3]=>[(some ("items" : Str),dat w.params (.lst (its.map encI))),(some ("order" : Str),k3),(some ("by_name" : Str),k2),(some ("signatures" : Str),k1)] | _=>[]) a c'
  (trsO_cons (evo_new (n:=n) Tm hT (ev_name (d:=.lst (its.map encI)) (.head _) rfl) rfl rfl rfl) fun K v ⟨x,dx,fs,de,lo,lf,e1,hF⟩=>
   trsO_cons (P1:=fun K=>∃ d,K=dat w.params d∧d=.dct (entL (rowsS (sigsOf its)))) (EvO.under (Ev.o (ev_byname hil hnl hfine.nd (by exact q6 ‹_›) (evv_blt rfl (by rfl) rfl rfl rfl rfl) (evv_glob rfl (by rfl) rfl rfl) (ev_name (d:=.lst (its.map encI)) (.head _) rfl)))) fun K2 v2 ⟨d2,e3,e4⟩=>
   trsO_cons (P1:=fun K=>∃ d,K=dat w.params d∧d=.lst ((told (rowsS (sigsOf its))).1.map .str)) (EvO.under (EvO.under (Ev.o ?wt))) fun K3 v3 ⟨d3,e5,e6⟩=>trsO_nil ⟨x,dx,fs,de,lo,lf,hF,by rw [e1,e3,e4,e5,e6]⟩) rfl rfl (Nat.le_of_ble_eq_true rfl) rfl
  (.inr ⟨.bind (.inl rfl) (.bind (.inl rfl) (.bind (.inl rfl) .nil)),rfl,?_⟩) ?_
 case wt=>exact pu_tup (l:=[.lst ((told (rowsS (sigsOf its))).1.map .str),.lst ((told (rowsS (sigsOf its))).2.map rowD)]) (k:=0) (evk_call (PA:=fun l=>l=[.lst (its.map encI)]) ff_told (evv_glob rfl (by rfl) rfl rfl) (trs1 (ev_name (.head _) rfl) (fun _ h=>by rw [h])) rfl ⟨_,_,rfl⟩ (fun _ _ _ _ _ x _=>x) (fun G s vs ds i b r p=>by subst p;exact c_told hil hnl hfine i b r)) (by simp) rfl
 ·rintro Ks ⟨x,dx,fs,de,lo,lf,hF,rfl⟩
  exact .cons (.skip (by decide) .new) (.cons (.skip (by decide) (.skip (by decide) .new)) (.cons (.skip (by decide) (.skip (by decide) (.skip (by decide) .new))) .nil))
 rintro Ks G1 s1 ⟨x,dx,fs,de,lo,lf,hF,rfl⟩ c1
 have c1:=c1.unsig (.tail (.tail (.tail .head)))
 generalize hrw:rowsS (sigsOf its)=rows at *
 have O:∀ {m:Nat} {ρ':Rho} {pos},(some ("signatures" : Str),inst w.params x dx 257 fs)∈ρ'→(none,entK w rows (.ref de))∈ρ'→Own w (envTn L) m ρ' (.Name "signatures" pos) x dx fs rows (.ref de):=fun {m ρ' pos} h1 h2=>
  ⟨⟨_,h1,rfl⟩,(evk_name (K:=inst w.params x dx 257 fs) h1 rfl).mono fun _ v _ _ _ hv=>hv.1,h2,hF.e1,hF.no,rfl⟩
 have sgm:∀ {q1 q2 q3 q4 q5 q6 q7:Option Str×Kd} {ρ':Rho},q7∈q1::q2::q3::q4::q5::q6::q7::ρ':=mh6
 have sgm7:∀ {q1 q2 q3 q4 q5 q6 q7 q8:Option Str×Kd} {ρ':Rho},q8∈q1::q2::q3::q4::q5::q6::q7::q8::ρ':=mh7
 have hordE:∀ {ρ':Rho} {pos},(some ("order" : Str),dat w.params (.lst ((told rows).1.map .str)))∈ρ'→Ev w (envTn L) (n+8) [] ρ' (.Name "order" pos) (fun d=>d=.lst ((told rows).1.map .str)):=fun h=>ev_name h rfl
 have hbyE:∀ {ρ':Rho} {pos},(some ("by_name" : Str),dat w.params (.dct (entL rows)))∈ρ'→Ev w (envTn L) (n+8) [] ρ' (.Name "by_name" pos) (fun d=>d=.dct (entL rows)):=fun h=>ev_name h rfl
 refine st_if a noN c1 (P:=fun b=>b=false) (tr_or3F
   (tr_neR (P1:=fun d=>d=.lst ((told rows).1.map .str)) (P2:=fun d=>d=.lst ((told rows).1.map .str)) (EvS.r (P:=fun l=>l=(told rows).1.map .str) 1 (EvL.evs (evl_names (n:=n+7) (O sgm (.head _)) hF.e2 mh1 (by simp;exact q6 ‹_›))) (fun l h=>by subst h;exact ⟨strs_flat hoko 1,rfl⟩)) (Ev.r 2 (hordE mh4) (fun d h=>by subst h;exact ⟨strs_lst hoko,rfl⟩)) (by rintro _ _ rfl rfl;rw [eqv_refl 2 _ (strs_lst hoko)];rfl))
   (tr_bool ((ev_has (n:=n+7) (O sgm (.head _)) hF.big ev_str).mono fun _ _ _ _ _ ⟨d,r,b,e,h⟩=>⟨d,r,b,e,by rw [h];exact decide_eq_false hZ⟩))
   (tr_not (tr_bool ((ev_has (n:=n+7) (O sgm (.head _)) hF.big ev_str).mono fun _ _ _ _ _ ⟨d,r,b,e,h⟩=>⟨d,r,b,e,by rw [h,decide_eq_true hA];rfl⟩)))) ?_
 rintro _ G2 s2 rfl c2
 refine st_nil ?_
 refine st_if a noN c2 (P:=fun b=>b=false) (tr_neR (P1:=fun d=>d=.lst ((ownF rows).map grpD)) (P2:=fun d=>d=.lst ((ownF rows).map grpD)) (EvS.r (P:=fun l=>l=(ownF rows).map grpD) 2 (EvL.evs ?lhs) (fun l h=>by subst h;exact ⟨grp_flat hgr,rfl⟩)) (EvS.r (P:=fun l=>l=(ownF rows).map grpD) 2 (EvL.evs ?rhs) (fun l h=>by subst h;exact ⟨grp_flat hgr,rfl⟩)) (by rintro _ _ rfl rfl;rw [eqv_refl 3 (.lst _) (show flats 2 _=true from grp_flat hgr)];rfl)) ?_
 case lhs=>
  refine evl_comp1 (Pds:=fun ds=>ds=(ownF rows).map encFd) (cl:=[]) [] (fun d=>[(some ("row" : Str),dat w.params d)]) (fun _=>true) (fun d r=>∃ f,f∈ownF rows∧d=encFd f∧r=grpD f)
   (ite_lst (EvL.ev (evl_fields (n:=n+7) (O sgm (.head _)) hF.e3 mh2 (by simp;omega))) fun d ⟨l,e,h⟩=>⟨l,e,h⟩) rfl (by decide) rfl (by decide) (fun _ _ h=>nomatch h) (fun _=>.nil) (.drop (.drop (.drop (.drop (.drop (.drop (.drop .nil))))))) (fun _ h=>nomatch h) ?_ (fun _=>List.nil_sublist _) (fun _ _ _ _ _ _ _=>.none) ?_ ?_
  ·rintro C K1 K2 A E G₀ s₀ G s ds d v aa rfl hd hr cc
   exact st_name cc hr (.skip (fun h=>nomatch h) (.skip (fun h=>nomatch h) .new)) rfl (.inl rfl) fun s' c'=>⟨_,c'⟩
  ·rintro C K1 K2 ds d rfl hd _
   obtain ⟨f,hf,rfl⟩:=List.mem_map.mp hd
   have hrow:∀ {env':Env} {k:Nat} {kk p1 p2 p3} {x:D},env'.scope.kind=.function→[D.str f.field,.str f.name,.str "",nodeD,.int f.spot,.int f.group][k]? = some x→Ev w env' (n+8) [] [(none,K1),(none,K2),(some ("row" : Str),dat w.params (encFd f))] (.Subscript (.Name "row" p1) (.Constant (.int (k:Int)) kk p2) p3) (fun y=>y=x):=
    fun hk hx=>pu_tup (l:=[D.str f.field,.str f.name,.str "",nodeD,.int f.spot,.int f.group]) (ev_name (d:=encFd f) mh2 hk) (by simp) hx
   exact (ev_tupQ (mq (hrow (k:=0) rfl rfl) (mq (hrow (k:=1) rfl rfl) (mq (hrow (k:=5) rfl rfl) mq_nil)))).mono fun _ _ _ _ _ ⟨d,r,e⟩=>⟨d,r,f,hf,rfl,e⟩
  ·rintro ds l rfl
   refine ⟨by simp;omega,fun h=>?_⟩
   rw [List.filter_eq_self.mpr (fun _ _=>rfl)] at h
   have key:∀ {fl:List Fd} {l:List D},All2 (fun d r=>∃ f,f∈ownF rows∧d=encFd f∧r=grpD f) (fl.map encFd) l→l=fl.map grpD:=by
    intro fl
    induction fl with
    | nil=>intro l h;cases h;rfl
    | cons f fl ih=>
     intro l h
     cases h with
     | cons h1 h2=>
      obtain ⟨f',_,e1,e2⟩:=h1
      have:grpD f'=grpD f:=by
       unfold encFd at e1
       injection e1 with e1
       simp only [List.cons.injEq,D.str.injEq,D.int.injEq,and_true] at e1
       unfold grpD
       rw [e1.1,e1.2.1,e1.2.2.2.2.2]
      rw [e2,this,ih h2];rfl
   exact key h
 case rhs=>
  exact evk_call (PA:=fun l=>l=[.dct (entL rows),.lst ((told rows).1.map .str)]) ff_groups (evv_glob rfl (by rfl) rfl rfl) (mq (hbyE mh5) (mq (hordE mh4) mq_nil)) rfl ⟨_,_,rfl⟩ (fun _ _ _ _ _ x h=>x.early h) (fun G s vs ds i b r p=>by subst p;exact c_groups hord hown.1 hdl i b r)
 rintro _ G3 s3 rfl c3
 refine st_nil ?_
 refine wpAny_execs_cons (st_for (N:=[]) (Pds:=fun l=>l=(told rows).1.map .str) a noN c3 (ite_lst (hordE mh4) fun d h=>⟨_,h,rfl⟩)
  (fun _ i=>(none,entK w rows (.ref de))::(none,lstD w lo ((told rows).1.map .str))::(none,lstD w lf ((ownF rows).map encFd))::(some ("items" : Str),dat w.params (.lst (its.map encI)))::(some ("order" : Str),dat w.params (.lst ((told rows).1.map .str)))::(some ("by_name" : Str),dat w.params (.dct (entL rows)))::(some ("signatures" : Str),inst w.params x dx 257 fs)::[]) (fun ds G' s' K h c=>c) ?turn ?done)
 case done=>
  rintro ds G4 s4 rfl c4
  exact st_ret a noN c4 (K:=fun _=>KD w (fun d=>d=.bool true)) ev_bool fun v G' s' y z q=>kk (.ret v) G' s' z.step q
 case turn=>
  rintro ds i d v' G4 s4 K rfl hdi hr c4
  rw [List.getElem?_map] at hdi
  obtain ⟨y,hy,rfl⟩:=Option.map_eq_some_iff.mp hdi
  have hyo:=List.mem_of_getElem? hy
  obtain ⟨t,ht⟩:=hord y hyo
  have hsup:=(hclo.oks _ _ ht).2
  refine st_name c4 hr (.skip (fun e=>nomatch e) (.skip (fun e=>nomatch e) (.skip (fun e=>nomatch e) (.skip (fun e=>nomatch e) (.skip (by decide) (.skip (by decide) (.skip (by decide) (.skip (by decide) .new)))))))) rfl (.inl rfl) fun s5 c5=>?_
  refine st_asg (P:=fun d=>d=encS t) a noN c5 (ev_sub_dct (hbyE mh6) (ev_name (d:=.str y) (.tail _ sgm7) rfl) (by rintro _ _ rfl rfl;exact ⟨_,_,_,rfl,rfl,entL_look ht,rfl⟩))
   (ρ':=fun d=>(none,K)::(none,entK w rows (.ref de))::(none,lstD w lo ((told rows).1.map .str))::(none,lstD w lf ((ownF rows).map encFd))::(some ("items" : Str),dat w.params (.lst (its.map encI)))::(some ("order" : Str),dat w.params (.lst ((told rows).1.map .str)))::(some ("by_name" : Str),dat w.params (.dct (entL rows)))::(some ("signatures" : Str),inst w.params x dx 257 fs)::(some ("name" : Str),dat w.params (.str y))::(some ("item" : Str),dat w.params d)::[])
   (fun d=>.skip (fun e=>nomatch e) (.skip (fun e=>nomatch e) (.skip (fun e=>nomatch e) (.skip (fun e=>nomatch e) (.skip (by decide) (.skip (by decide) (.skip (by decide) (.skip (by decide) (.skip (by decide) .new))))))))) rfl (.inl rfl) ?_
  rintro _ G6 s6 rfl c6
  have hnm:∀ {ρ':Rho} {pos},(some ("name" : Str),dat w.params (.str y))∈ρ'→Ev w (envTn L) (n+8) [] ρ' (.Name "name" pos) (fun d=>d=.str y):=fun h=>ev_name h rfl
  have hit:∀ {ρ':Rho} {k:Nat} {kk p1 p2 p3} {x:D},(some ("item" : Str),dat w.params (encS t))∈ρ'→[D.str "sig",.int t.spot,.tup (t.names.map .str),.bool t.abs,.str "",.str t.parent,.tup (t.sups.map .str),.tup (t.decls.map encDc),.tup []][k]? = some x→Ev w (envTn L) (n+8) [] ρ' (.Subscript (.Name "item" p1) (.Constant (.int (k:Int)) kk p2) p3) (fun y=>y=x):=
   fun h hx=>pu_tup (l:=[D.str "sig",.int t.spot,.tup (t.names.map .str),.bool t.abs,.str "",.str t.parent,.tup (t.sups.map .str),.tup (t.decls.map encDc),.tup []]) (ev_name (d:=encS t) h rfl) (by simp) hx
  have O6:∀ {pos},Own w (envTn L) (n+8) ((none,K)::(none,entK w rows (.ref de))::(none,lstD w lo ((told rows).1.map .str))::(none,lstD w lf ((ownF rows).map encFd))::(some ("items" : Str),dat w.params (.lst (its.map encI)))::(some ("order" : Str),dat w.params (.lst ((told rows).1.map .str)))::(some ("by_name" : Str),dat w.params (.dct (entL rows)))::(some ("signatures" : Str),inst w.params x dx 257 fs)::(some ("name" : Str),dat w.params (.str y))::(some ("item" : Str),dat w.params (encS t))::[]) (.Name "signatures" pos) x dx fs rows (.ref de):=O (.tail _ sgm) mh1
  refine st_asg (P:=fun d=>∃ r,Ab64 rows t r∧d=hadD t r) a noN c6 ((ev_tuple (P:=fun l=>∃ r,Ab64 rows t r∧l=[.lst (r.map .str),.int t.spot,.bool (!t.sups.isEmpty)])
    (trs_cons (P1:=fun d=>∃ r,Ab64 rows t r∧d=.lst (r.map .str)) (P2:=fun l=>l=[.int t.spot,.bool (!t.sups.isEmpty)])
     ((EvL.ev (evl_sorted (P:=fun l=>∃ r,Ab64 rows t r∧l=r.map .str) (evv_blt rfl (by rfl) rfl rfl rfl rfl) (EvL.evs (evl_mabove (n:=n+5) O6 (hnm (.tail _ sgm7)) hclo ht)) (fun v G s i ⟨ad,vs,m,l,e,hg,r,r0,hl,hab⟩=>by
      have hnd:=hab.nodup .nil
      have hmem:∀ o,o∈r0↔Reach (upOf rows) t.up o:=fun o=>by rw [hab.mem (fun _ h=>nomatch h) o];simp
      have hsub:∀ o∈r0,o∈keys rows:=fun o ho=>Reach.key hclo ht ((hmem o).mp ho)
      have hlen:=hnd.length_le_of_subset (l₂:=keys rows) hsub
      refine ⟨ad,vs,m,r0,e,hg,by rw [← hl];exact r,by simp only [keys,List.length_map] at hlen;omega,fun ss' hp hso=>⟨ss',⟨hso,hp.nodup_iff.mpr hnd,fun u hu=>(hfine.okk _ (hsub u (hp.mem_iff.mp hu))).1,fun o=>by rw [hp.mem_iff];exact hmem o⟩,rfl⟩⟩))).mono fun _ _ _ _ _ ⟨d,rr,l,e,r,h1,h2⟩=>⟨d,rr,r,h1,by rw [e,h2]⟩)
     (mq (ev_spot (n:=n+7) O6 (hnm (.tail _ sgm7)) ht) (mq ((ev_subset (n:=n+7) O6 (hnm (.tail _ sgm7)) ht hsup).mono fun _ _ _ _ _ ⟨d,rr,b,e,h⟩=>⟨d,rr,by rw [e,h]⟩) mq_nil))
     (by rintro _ _ ⟨r,h1,rfl⟩ rfl;exact ⟨r,h1,rfl⟩)) (ht:=rfl) (hsz:=Nat.le_of_ble_eq_true rfl)).mono fun _ _ _ _ _ ⟨d,rr,l,e,r,h1,h2⟩=>⟨d,rr,r,h1,by rw [e,h2]⟩)
   (ρ':=fun d=>(none,K)::(none,entK w rows (.ref de))::(none,lstD w lo ((told rows).1.map .str))::(none,lstD w lf ((ownF rows).map encFd))::(some ("items" : Str),dat w.params (.lst (its.map encI)))::(some ("order" : Str),dat w.params (.lst ((told rows).1.map .str)))::(some ("by_name" : Str),dat w.params (.dct (entL rows)))::(some ("signatures" : Str),inst w.params x dx 257 fs)::(some ("name" : Str),dat w.params (.str y))::(some ("item" : Str),dat w.params (encS t))::(some ("had" : Str),dat w.params d)::[])
   (fun d=>.skip (fun e=>nomatch e) (.skip (fun e=>nomatch e) (.skip (fun e=>nomatch e) (.skip (fun e=>nomatch e) (.skip (by decide) (.skip (by decide) (.skip (by decide) (.skip (by decide) (.skip (by decide) (.skip (by decide) .new)))))))))) rfl (.inl rfl) ?_
  rintro _ G7 s7 ⟨r1,hr1,rfl⟩ c7
  refine st_if a noN c7 (P:=fun b=>b=false) (tr_neR (P1:=fun d=>d=hadD t r1) (P2:=fun d=>∃ r,Ab64 rows t r∧d=hadD t r)
   (Ev.r 2 (ev_name (d:=hadD t r1) (.tail _ (.tail _ (.tail _ sgm7))) rfl) (fun d h=>by subst h;exact ⟨had_flat hr1.ok,rfl⟩))
   (Ev.r (P:=fun d=>∃ r,Ab64 rows t r∧d=hadD t r) 2 ((ev_tuple (P:=fun l=>∃ r,Ab64 rows t r∧l=[.lst (r.map .str),.int t.spot,.bool (!t.sups.isEmpty)])
    (trs_cons (P1:=fun d=>∃ r,Ab64 rows t r∧d=.lst (r.map .str)) (P2:=fun l=>l=[.int t.spot,.bool (!t.sups.isEmpty)])
     ((EvL.ev (P:=fun l=>∃ r:List Str,l=r.map .str∧sortedS r=true∧r.Nodup∧r.length < 64∧(∀ u∈r,PyData.strOk u=true)∧∀ o,o∈r↔Reach (upOf rows) t.up o) (evk_call (PA:=fun l=>l=[.dct (entL rows),.str y]) ff_labove (evv_glob rfl (by rfl) rfl rfl) (mq (hbyE mh6) (mq (hnm (.tail _ sgm7)) mq_nil)) rfl ⟨_,_,rfl⟩ (fun _ _ _ _ _ x h=>x.early h) (fun G s vs ds i b r p=>by subst p;exact c_labove hclo hlt ht i b r))).mono fun _ _ _ _ _ ⟨d,rr,l,e,r,h1,h2,h3,h4,h5,h6⟩=>⟨d,rr,r,⟨h2,h3,h5,h6⟩,by rw [e,h1]⟩)
     (mq (hit (k:=1) (.tail _ (.tail _ sgm7)) rfl) (mq ((ev_neR (P1:=fun d=>d=.tup (t.sups.map .str)) (P2:=fun d=>d=.tup []) (P:=fun b=>b = !t.sups.isEmpty) (Ev.r 1 (hit (k:=6) (.tail _ (.tail _ sgm7)) rfl) (fun d h=>by subst h;exact ⟨strs_flat (fun u hu=>(hclo.oks _ _ ht).1 u (by unfold Sg.up;simp [hu])) 0,rfl⟩)) (Ev.r 1 (ev_tupQ mq_nil) (fun d h=>by subst h;exact ⟨rfl,rfl⟩)) (by rintro _ _ rfl rfl;show (!PyData.eqvAll _ _)=_;rw [toPys,eqv_nil];cases t.sups<;>rfl)).mono fun _ _ _ _ _ ⟨d,rr,b,e,h⟩=>⟨d,rr,by rw [e,h]⟩) mq_nil))
     (by rintro _ _ ⟨r,h1,rfl⟩ rfl;exact ⟨r,h1,rfl⟩)) (ht:=rfl) (hsz:=Nat.le_of_ble_eq_true rfl)).mono fun _ _ _ _ _ ⟨d,rr,l,e,r,h1,h2⟩=>⟨d,rr,r,h1,by rw [e,h2]⟩) (fun d ⟨r,h1,h2⟩=>by subst h2;exact ⟨had_flat h1.ok,r,h1,rfl⟩))
   (by rintro _ _ rfl ⟨r2,h2,rfl⟩;rw [hr1.one h2,eqv_refl 2 _ (had_flat h2.ok)];rfl)) ?_
  rintro _ G8 s8 rfl c8
  exact st_nil (st_nil ⟨G8,c8.sub (List.sublist_append_left [_,_,_,_,_,_,_,_] [_,_,_])⟩)
end Mine
end
section
namespace Mine
variable {its:List Im} {k:Nat} {t t':Sg} {a b:List Sg}
theorem set_split (hk:its[k]? = some (.sig t)) (x:Im):∃ ia ib,its=ia ++ .sig t::ib∧its.set k x=ia++x::ib∧ia.length=k:=by
 obtain ⟨hl,e⟩:=List.getElem?_eq_some_iff.mp hk
 refine ⟨its.take k,its.drop (k+1),?_,?_,by rw [List.length_take];omega⟩
 ·conv=>lhs;rw [← List.take_append_drop k its,List.drop_eq_getElem_cons hl,e]
 ·rw [List.set_eq_take_append_cons_drop,if_pos hl]
theorem sigs_mid {ia ib:List Im} {t:Sg}:sigsOf (ia ++ .sig t::ib)=sigsOf ia++t::sigsOf ib:=by rw [sigsOf_append];rfl
theorem opns_mid {ia ib:List Im} {t:Sg}:opnsOf (ia ++ .sig t::ib)=opnsOf ia++opnsOf ib:=by rw [opnsOf_append];rfl
theorem Tame.set (h:Tame its) (hk:its[k]? = some (.sig t)) (ht:TameS t'):Tame (its.set k (.sig t')):=by
 obtain ⟨ia,ib,e1,e2,_⟩:=set_split hk (.sig t')
 refine ⟨by rw [List.length_set];exact h.len,fun u hu=>?_,fun o ho=>?_⟩
 ·rw [e2,sigs_mid] at hu
  rcases List.mem_append.mp hu with hu | hu
  ·exact h.sigs u (by rw [e1,sigs_mid];exact List.mem_append_left _ hu)
  ·rcases List.mem_cons.mp hu with e | hu
   ·rw [e];exact ht
   ·exact h.sigs u (by rw [e1,sigs_mid];exact List.mem_append_right _ (.tail _ hu))
 ·rw [e2,opns_mid] at ho
  exact h.opns o (by rw [e1,opns_mid];exact ho)
theorem keys_mid:keys (rowsS (a++t::b))=keys (rowsS a)++(t.names++keys (rowsS b)):=by
 have:a++t::b=a++([t]++b):=rfl
 rw [this,rowsS_append,rowsS_append,keys_append,keys_append,keys_rowsS_one]
theorem rows_mid:rowsS (a++t::b)=rowsS a++(t.names.map (·,t)++rowsS b):=by
 have:a++t::b=a++([t]++b):=rfl
 rw [this,rowsS_append,rowsS_append]
 simp [rowsS]
theorem keys_repl (nm:t'.names=t.names):keys (rowsS (a++t'::b))=keys (rowsS (a++t::b)):=by rw [keys_mid,keys_mid,nm]
theorem look_none {rows:List (Str×Sg)} {z:Str} (h:z∉keys rows):look rows z=none:=by
 cases q:look rows z with
 | none=>rfl
 | some t=>exact (h (List.mem_map_of_mem (f:=Prod.fst) (mem_of_look q))).elim
theorem look_in (h:Four (a++t::b)) (nm:t'.names=t.names) {z:Str} (hz:z∈t.names):look (rowsS (a++t'::b)) z=some t':=
 look_of_nd (p:=(z,t')) (by rw [keys_repl nm];exact h.keysNd) (mem_rows.mpr ⟨by simp,by rw [nm];exact hz⟩)
theorem look_out (h:Four (a++t::b)) (nm:t'.names=t.names) {z:Str} (hz:z∉t.names):look (rowsS (a++t'::b)) z=look (rowsS (a++t::b)) z:=by
 cases q:look (rowsS (a++t::b)) z with
 | some u=>
  obtain ⟨h1,h2⟩:=mem_rows.mp (mem_of_look q)
  refine look_of_nd (p:=(z,u)) (by rw [keys_repl nm];exact h.keysNd) (mem_rows.mpr ⟨?_,h2⟩)
  rcases List.mem_append.mp h1 with h3 | h3
  ·exact List.mem_append_left _ h3
  ·rcases List.mem_cons.mp h3 with e | h3
   ·have e:u=t:=e
    rw [e] at h2;exact (hz h2).elim
   ·exact List.mem_append_right _ (.tail _ h3)
 | none=>
  refine look_none fun hm=>?_
  rw [keys_repl nm] at hm
  obtain ⟨u,hu⟩:=look_of_mem hm
  rw [q] at hu;cases hu
theorem good_of {l:List Sg} (hp:l.Pairwise fun a b=>∀ x∈a.names,x∉b.names) (hn:∀ t∈l,t.names.Nodup∧¬ (t.sups≠[]∧t.abs=true)):Good BadSig l:=fun pre y post e hb=>by
 obtain ⟨h1,h2⟩:=hn y (by rw [e];simp)
 rcases hb with hb | hb
 ·refine dupIn_of (fun x hx hm=>?_) h1 hb
  obtain ⟨t,ht,hxt⟩:=mem_keys.mp hm
  rw [e,List.pairwise_append] at hp
  exact hp.2.2 t ht y (.head _) x hxt hx
 ·exact h2 hb
theorem Four.nd {ts:List Sg} (h:Four ts):∀ t∈ts,t.names.Nodup∧t.abs=false:=fun t ht=>by
 obtain ⟨k,hk,hs⟩:=h.sig t ht
 exact ⟨hs.nodup hk,hs.abs⟩
theorem apart_repl (h:Four (a++t::b)) (nm:t'.names=t.names):(a++t'::b).Pairwise fun a b=>∀ x∈a.names,x∉b.names:=by
 have h1:((a++t::b).map Sg.names).Pairwise fun a b=>∀ x∈a,x∉b:=List.pairwise_map.mpr h.apart
 have e:(a++t::b).map Sg.names=(a++t'::b).map Sg.names:=by simp [nm]
 rw [e] at h1
 exact List.pairwise_map.mp h1
theorem sig_repl (h:Four (a++t::b)) (nm:t'.names=t.names) (ha:t'.abs=false):Good BadSig (a++t'::b):=
 good_of (apart_repl h nm) fun u hu=>by
  rcases List.mem_append.mp hu with h1 | h1
  ·have:=h.nd u (List.mem_append_left _ h1)
   exact ⟨this.1,fun q=>by rw [this.2] at q;cases q.2⟩
  ·rcases List.mem_cons.mp h1 with e | h1
   ·rw [e,nm]
    exact ⟨(h.nd t (by simp)).1,fun q=>by rw [ha] at q;cases q.2⟩
   ·have:=h.nd u (List.mem_append_right _ (.tail _ h1))
    exact ⟨this.1,fun q=>by rw [this.2] at q;cases q.2⟩
theorem sig_first (h:Four (a++t::b)) (hs:t'.sups≠[]) (ha:t'.abs=true):First BadSig (a++t'::b) t':=
 ⟨a,b,rfl,h.good.left,.inr ⟨hs,ha⟩⟩
theorem Four.supsNil {ts:List Sg} (h:Four ts) {t:Sg} (ht:t∈ts) {z:Str} (hz:z∈t.names) (he:z = "A"∨z = "C"):t.sups=[]:=by
 obtain ⟨k,hk,hs⟩:=h.sig t ht
 have hr:=hs.rk hk z hz
 have:k < 3:=by
  rcases he with e | e
  ·rw [e] at hr;have h2:Mine.rk "A" = 0:=by decide +kernel
   omega
  ·rw [e] at hr;have h2:Mine.rk "C" = 1:=by decide +kernel
   omega
 have h3:=hs.sups
 rw [if_pos this] at h3
 exact h3
theorem row_old (h:Four (a++t::b)) (nm:t'.names=t.names) (hs:t.sups=[]→t'.sups=[]) {pre:List (Str×Sg)} {p:Str×Sg} (hp:p∈rowsS (a++t::b)):¬ BadRow (rowsS (a++t'::b)) pre p:=fun hb=>by
 rcases hb with ⟨u,hu,hn⟩ | ⟨hpar,q,hq,hsn⟩
 ·rw [keys_repl nm] at hn
  exact hn (h.up p hp u hu).2
 ·obtain ⟨h1,h2⟩:=mem_rows.mp hp
  obtain ⟨k,hk,hs1⟩:=h.sig _ h1
  have hAC:p.2.parent = "A"∨p.2.parent = "C":=hs1.parOk.resolve_left hpar
  by_cases hz:p.2.parent∈t.names
  ·rw [look_in h nm hz] at hq
   cases hq
   exact hsn (hs (h.supsNil (by simp) hz hAC))
  ·rw [look_out h nm hz] at hq
   obtain ⟨h3,h4⟩:=mem_rows.mp (mem_of_look hq)
   exact hsn (h.supsNil h3 h4 hAC)
theorem Four.names {ts:List Sg} (h:Four ts) {t:Sg} (ht:t∈ts):∃ n ns,t.names=n::ns:=by
 obtain ⟨k,hk,hs⟩:=h.sig t ht
 rcases hs.names with e | e<;>rw [e]<;>exact ⟨_,_,rfl⟩
theorem mem_left {ts us:List Sg} {p:Str×Sg} (h:p∈rowsS ts) (hs:∀ t∈ts,t∈us):p∈rowsS us:=by
 obtain ⟨h1,h2⟩:=mem_rows.mp h
 exact mem_rows.mpr ⟨hs _ h1,h2⟩
theorem row_first (h:Four (a++t::b)) (nm:t'.names=t.names) (hs:t.sups=[]→t'.sups=[]) (hb:∀ n pre,BadRow (rowsS (a++t'::b)) pre (n,t')):∃ n,First (BadRow (rowsS (a++t'::b))) (rowsS (a++t'::b)) (n,t'):=by
 obtain ⟨n,ns,e⟩:=h.names (t:=t) (by simp)
 refine ⟨n,rowsS a,ns.map (·,t')++rowsS b,by rw [rows_mid,nm,e];rfl,fun pre p post e2=>?_,hb n _⟩
 refine row_old h nm hs (mem_left (ts:=a) (by rw [e2];simp) fun t ht=>List.mem_append_left _ ht)
theorem row_good (h:Four (a++t::b)) (nm:t'.names=t.names) (hs:t.sups=[]→t'.sups=[]) (hb:∀ n pre,¬ BadRow (rowsS (a++t'::b)) pre (n,t')):Good (BadRow (rowsS (a++t'::b))) (rowsS (a++t'::b)):=fun pre p post e=>by
 have hp:p∈rowsS (a++t'::b):=by rw [e];simp
 obtain ⟨h1,h2⟩:=mem_rows.mp hp
 rcases List.mem_append.mp h1 with h3 | h3
 ·exact row_old h nm hs (mem_rows.mpr ⟨List.mem_append_left _ h3,h2⟩)
 ·rcases List.mem_cons.mp h3 with e3 | h3
  ·obtain ⟨n,u⟩:=p
   have e3:u=t':=e3
   subst e3
   exact hb n pre
  ·exact row_old h nm hs (mem_rows.mpr ⟨List.mem_append_right _ (.tail _ h3),h2⟩)
end Mine
end
section
namespace Mine
variable {its:List Im} {k:Nat} {t t':Sg} {a b:List Sg}
theorem key_pool {ts:List Sg} (h:Four ts) {x:Str} (hx:x∈keys (rowsS ts)):∃ k:Nat,k < 4∧(x=(poolN k).1∨x=(poolN k).2):=by
 obtain ⟨t,ht,hxt⟩:=mem_keys.mp hx
 obtain ⟨k,hk,hs⟩:=h.sig t ht
 refine ⟨k,hk,?_⟩
 rcases hs.names with e | e<;>rw [e] at hxt
 ·exact .inl (List.mem_singleton.mp hxt)
 ·simpa using hxt
theorem key_not {ts:List Sg} (h:Four ts) {x:Str} (hz:∀ k:Nat,k < 4→x≠(poolN k).1∧x≠(poolN k).2):x∉keys (rowsS ts):=fun hx=>by
 obtain ⟨k,hk,e⟩:=key_pool h hx
 exact e.elim (hz k hk).1 (hz k hk).2
theorem noZ (k:Nat) (h:k < 4):(("Z" : Str)≠(poolN k).1∧("Z" : Str)≠(poolN k).2)∧("h" : Str)≠(poolN k).1∧("h" : Str)≠(poolN k).2:=
 (by decide +kernel:∀ k,k < 4→(("Z" : Str)≠(poolN k).1∧("Z" : Str)≠(poolN k).2)∧("h" : Str)≠(poolN k).1∧("h" : Str)≠(poolN k).2) k h
theorem Four.noZ {ts:List Sg} (h:Four ts):("Z" : Str)∉keys (rowsS ts)∧("h" : Str)∉keys (rowsS ts):=⟨key_not h fun k hk=>(Mine.noZ k hk).1,key_not h fun k hk=>(Mine.noZ k hk).2⟩
theorem way_row (hm:IsModel its) (hk:its[k]? = some (.sig t)) (nm:t'.names=t.names) (ha:t'.abs=false) (hs:t.sups=[]→t'.sups=[]) (hsp:t'.spot=t.spot)
  (hb:∀ a b:List Sg,Four (a++t::b)→∀ n pre,BadRow (rowsS (a++t'::b)) pre (n,t')):Refused (its.set k (.sig t')) t.spot:=by
 obtain ⟨ia,ib,e1,e2,_⟩:=set_split hk (.sig t')
 have h:=hm.four.1
 rw [e1,sigs_mid] at h
 obtain ⟨n,hf⟩:=row_first h nm hs (hb _ _ h)
 have e3:sigsOf (its.set k (.sig t'))=sigsOf ia++t'::sigsOf ib:=by rw [e2,sigs_mid]
 have:=Refused.row (its:=its.set k (.sig t')) (p:=(n,t')) (by rw [e3];exact sig_repl h nm ha) (by rw [e3];exact hf)
 rw [← hsp];exact this
theorem way1a (hm:IsModel its) (hk:its[k]? = some (.sig t)) (hs:t.sups=[]):Refused (its.set k (.sig {t with parent:="Z"})) t.spot:=by
 have h:=hm.four.1
 have ht:t∈sigsOf its:=mem_sigsOf (List.mem_of_getElem? hk)
 refine way_row hm hk rfl ((h.nd t ht).2) (fun _=>hs) rfl fun a b h n pre=>.inl ⟨"Z",?_,?_⟩
 ·unfold Sg.up
  show ("Z" : Str)∈(if ("Z" : Str) = "" then [] else [("Z" : Str)])++t.sups
  rw [if_neg (by decide)];simp
 ·rw [keys_repl (t:=t) (t':={t with parent:="Z"}) rfl];exact h.noZ.1
theorem way1b (hm:IsModel its) (hk:its[k]? = some (.sig t)) (hs:t.sups≠[]):Refused (its.set k (.sig {t with sups:=t.sups++[("Z" : Str)]})) t.spot:=by
 have h:=hm.four.1
 have ht:t∈sigsOf its:=mem_sigsOf (List.mem_of_getElem? hk)
 refine way_row hm hk rfl ((h.nd t ht).2) (fun e=>(hs e).elim) rfl fun a b h n pre=>.inl ⟨"Z",?_,?_⟩
 ·unfold Sg.up;simp
 ·rw [keys_repl (t:=t) (t':={t with sups:=t.sups++[("Z" : Str)]}) rfl];exact h.noZ.1
theorem Four.supP {ts:List Sg} (h:Four ts):∃ q∈ts,("P" : Str)∈q.names∧q.sups≠[]:=by
 obtain ⟨q,hq,hs⟩:=h.has 3 (by exact Nat.le_refl _)
 refine ⟨q,hq,?_,?_⟩
 ·rcases hs.names with e | e<;>rw [e]<;>exact .head _
 ·have:=hs.sups
  rw [if_neg (by decide)] at this
  intro e
  rw [e] at this
  simp at this
theorem way3 (hm:IsModel its) (hk:its[k]? = some (.sig t)) (hs:t.sups=[]):Refused (its.set k (.sig {t with parent:="P"})) t.spot:=by
 have h:=hm.four.1
 have ht:t∈sigsOf its:=mem_sigsOf (List.mem_of_getElem? hk)
 refine way_row hm hk rfl ((h.nd t ht).2) (fun _=>hs) rfl fun a b h n pre=>.inr ⟨show ("P" : Str)≠"" by decide,?_⟩
 obtain ⟨q,hq,hp,hqs⟩:=h.supP
 refine ⟨q,?_,hqs⟩
 have hl:look (rowsS (a++t::b)) "P" = some q:=look_of_nd (p:=("P",q)) h.keysNd (mem_rows.mpr ⟨hq,hp⟩)
 have hn:("P" : Str)∉t.names:=fun hz=>by
  have:=look_in (t:=t) (t':=t) h rfl hz
  rw [hl] at this
  cases this
  exact hqs hs
 show look (rowsS (a++_::b)) "P" = _
 rw [look_out (t':={t with parent:="P"}) h rfl hn];exact hl
theorem way4 (hm:IsModel its) (hk:its[k]? = some (.sig t)) (hs:t.sups≠[]):Refused (its.set k (.sig {t with abs:=true})) t.spot:=by
 obtain ⟨ia,ib,e1,e2,_⟩:=set_split hk (.sig {t with abs:=true})
 have h:=hm.four.1
 rw [e1,sigs_mid] at h
 have e3:sigsOf (its.set k (.sig {t with abs:=true}))=sigsOf ia ++ {t with abs:=true}::sigsOf ib:=by rw [e2,sigs_mid]
 exact Refused.sig (its:=its.set k (.sig {t with abs:=true})) (t:={t with abs:=true}) (by rw [e3];exact sig_first h hs rfl)
theorem dupIn_mem {ns seen:List Str} {x:Str} (h:x∈ns) (hs:x∈seen):dupIn seen ns:=by
 induction ns generalizing seen with
 | nil=>cases h
 | cons y ns ih=>exact (List.mem_cons.mp h).elim (fun e=>.inl (e▸hs)) fun h=>.inr (ih h (List.mem_append_left _ hs))
noncomputable def lateS (x:Str):Sg:=⟨500,[x],false,"",[],[]⟩
theorem way0 (hm:IsModel its) (hk:its[k]? = some (.sig t)) {j:Nat} (hj:j≤its.length) {x:Str} (hx:x∈t.names):Refused (its.take j++[.sig (lateS x)]++its.drop j) (if j≤k then t.spot else 500):=by
 have h:=hm.four.1
 have eI:its.take j++[.sig (lateS x)]++its.drop j=its.take j ++ .sig (lateS x)::its.drop j:=by simp
 have eS:sigsOf (its.take j++[.sig (lateS x)]++its.drop j)=sigsOf (its.take j)++lateS x::sigsOf (its.drop j):=by rw [eI,sigs_mid]
 have eO:sigsOf its=sigsOf (its.take j)++sigsOf (its.drop j):=by rw [← sigsOf_append,List.take_append_drop]
 by_cases hle:j≤k
 ·rw [if_pos hle]
  have hk2:(its.drop j)[k - j]? = some (.sig t):=by rw [List.getElem?_drop];rw [show j+(k - j)=k by omega];exact hk
  obtain ⟨ia,ib,e1,_,_⟩:=set_split hk2 (.sig t)
  rw [e1,sigs_mid] at eS eO
  rw [eO] at h
  have hap:=h.apart
  rw [List.pairwise_append] at hap
  obtain ⟨p1,p2,p3⟩:=hap
  rw [List.pairwise_append] at p2
  obtain ⟨p4,_,p5⟩:=p2
  refine Refused.sig (t:=t) ⟨sigsOf (its.take j)++lateS x::sigsOf ia,sigsOf ib,by rw [e1,eS];simp,good_of ?_ ?_,.inl (dupIn_mem hx (mem_keys.mpr ⟨lateS x,by simp,.head _⟩))⟩
  ·refine List.pairwise_append.mpr ⟨p1,List.pairwise_cons.mpr ⟨fun u hu z hz hzu=>?_,p4⟩,fun u hu v hv=>?_⟩
   ·rw [List.mem_singleton.mp hz] at hzu
    exact p5 u hu t (.head _) x hzu hx
   ·rcases List.mem_cons.mp hv with e | hv
    ·intro z hz hzl
     rw [e] at hzl
     rw [List.mem_singleton.mp hzl] at hz
     exact p3 u hu t (by simp) x hz hx
    ·exact p3 u hu v (by simp [hv])
  ·intro u hu
   rcases List.mem_append.mp hu with hu | hu
   ·have:=h.nd u (by simp [hu])
    exact ⟨this.1,fun q=>by rw [this.2] at q;cases q.2⟩
   ·rcases List.mem_cons.mp hu with e | hu
    ·rw [e];exact ⟨by simp [lateS],fun q=>q.1 rfl⟩
    ·have:=h.nd u (by simp [hu])
     exact ⟨this.1,fun q=>by rw [this.2] at q;cases q.2⟩
 ·rw [if_neg hle]
  have hm2:t∈sigsOf (its.take j):=mem_sigsOf (List.mem_of_getElem? (i:=k) (by rw [List.getElem?_take];rw [if_pos (by omega)];exact hk))
  rw [eO] at h
  exact Refused.sig (t:=lateS x) ⟨sigsOf (its.take j),sigsOf (its.drop j),eS,h.good.left,.inl (dupIn_mem (.head _) (mem_keys.mpr ⟨t,hm2,hx⟩))⟩
theorem Tame.ins (h:Tame its) (hl:its.length≤10) {x:Str} (hx:okS x) (j:Nat):Tame (its.take j++[.sig (lateS x)]++its.drop j):=by
 have eI:its.take j++[.sig (lateS x)]++its.drop j=its.take j ++ .sig (lateS x)::its.drop j:=by simp
 refine ⟨by rw [eI];simp;omega,fun u hu=>?_,fun o ho=>?_⟩
 ·rw [eI,sigs_mid] at hu
  have eO:sigsOf its=sigsOf (its.take j)++sigsOf (its.drop j):=by rw [← sigsOf_append,List.take_append_drop]
  rcases List.mem_append.mp hu with hu | hu
  ·exact h.sigs u (by rw [eO];simp [hu])
  ·rcases List.mem_cons.mp hu with e | hu
   ·rw [e]
    exact ⟨⟨by simp [lateS],fun y hy=>by rw [List.mem_singleton.mp hy];exact hx⟩,by simp [lateS],(fun y hy=>nomatch hy),by simp [lateS],fun d hd=>nomatch hd⟩
   ·exact h.sigs u (by rw [eO];simp [hu])
 ·rw [eI,opns_mid] at ho
  refine h.opns o ?_
  have:opnsOf its=opnsOf (its.take j)++opnsOf (its.drop j):=by rw [← opnsOf_append,List.take_append_drop]
  rw [this];exact ho
theorem reach_head {up:Str→List Str} {ws:List Str} {o:Str} (h:Reach up ws o):∃ u∈ws,u=o∨Reach up (up u) o:=by
 induction h with
 | here h=>exact ⟨_,h,.inl rfl⟩
 | on _ h2 ih=>
  obtain ⟨u,hu,e | r⟩:=ih
  ·exact ⟨u,hu,.inr (.here (e▸h2))⟩
  ·exact ⟨u,hu,.inr (.on r h2)⟩
theorem Reach.up {up up':Str→List Str} (hu:∀ z u,u∈up z→u∈up' z) {ws:List Str} {o:Str} (h:Reach up ws o):Reach up' ws o:=by
 induction h with
 | here h=>exact .here h
 | on _ h2 ih=>exact .on ih (hu _ _ h2)
theorem told_ring {rows:List (Str×Sg)} {C:Str→Prop} (hC:∀ p∈rows,C p.1→∃ u∈p.2.up,C u) (n:Nat) (found:List Str) (left:List (Str×Sg)) (hl:∀ p∈left,p∈rows) (h:∀ y∈found,¬ C y):∀ y∈(toldF n found left).1,¬ C y:=by
 induction n generalizing found left with
 | zero=>exact h
 | succ n ih=>
  unfold toldF
  cases hf:left.findIdx? (fun p=>ready found p.2) with
  | none=>exact h
  | some k=>
   obtain ⟨hk,hr,_⟩:=List.findIdx?_eq_some_iff_getElem.mp hf
   have e:left[k]? = some left[k]:=List.getElem?_eq_getElem hk
   refine ih _ _ (fun p hp=>hl p (List.mem_of_mem_eraseIdx hp)) fun y hy=>?_
   rcases List.mem_append.mp hy with hy | hy
   ·exact h y hy
   ·rw [e] at hy
    rw [List.mem_singleton.mp hy]
    intro hc
    obtain ⟨u,hu,hcu⟩:=hC _ (hl _ (List.getElem_mem hk)) hc
    unfold ready at hr
    exact h u (by simpa using List.all_eq_true.mp hr u hu) hcu
theorem ring_left {rows:List (Str×Sg)} {C:Str→Prop} (hC:∀ p∈rows,C p.1→∃ u∈p.2.up,C u) {z:Str} (hz:z∈keys rows) (hc:C z):∃ p r,(told rows).2=p::r:=by
 cases hq:(told rows).2 with
 | cons p r=>exact ⟨p,r,rfl⟩
 | nil=>
  have hp:=toldF_perm rows.length [] rows
  have e:(toldF rows.length [] rows).2=[]:=hq
  rw [e] at hp
  have hm:z∈(toldF rows.length [] rows).1:=by
   have:=hp.mem_iff.mpr (show z∈[]++keys rows by simpa using hz)
   simpa [keys] using this
  exact (told_ring hC rows.length [] rows (fun _ h=>h) (fun _ h=>nomatch h) z hm hc).elim
theorem look_mem {rows:List (Str×Sg)} (nd:(keys rows).Nodup) {p:Str×Sg} (hp:p∈rows):upOf rows p.1=p.2.up:=by
 unfold upOf
 rw [look_of_nd nd hp]
theorem Four.upA {ts:List Sg} (h:Four ts) {t:Sg} (ht:t∈ts) (hA:("A" : Str)∈t.names):t.up=[]∧t.sups=[]∧t.parent = "":=by
 obtain ⟨k,hk,hs⟩:=h.sig t ht
 have hr:=hs.rk hk _ hA
 have h2:Mine.rk "A" = 0:=by decide +kernel
 have hk0:k=0:=by omega
 subst hk0
 have h3:=hs.sups
 rw [if_pos (by decide)] at h3
 have h4:=hs.par
 have h4:t.parent = "":=by simpa using h4
 exact ⟨by unfold Sg.up;rw [h3,h4];rfl,h3,h4⟩
theorem way2 (hm:IsModel its) (hk:its[k]? = some (.sig t)) (hA:("A" : Str)∈t.names) {y:Str} {ty:Sg} (hy:look (rowsS (sigsOf its)) y=some ty) (hys:ty.sups=[]) (hya:y = "A"∨Above (rowsS (sigsOf its)) y "A") :
  Good BadSig (sigsOf (its.set k (.sig {t with parent:=y})))∧∃ p r,(told (rowsS (sigsOf (its.set k (.sig {t with parent:=y}))))).2=p::r∧Refused (its.set k (.sig {t with parent:=y})) p.2.spot:=by
 obtain ⟨ia,ib,e1,e2,_⟩:=set_split hk (.sig {t with parent:=y})
 have h:=hm.four.1
 have e0:sigsOf its=sigsOf ia++t::sigsOf ib:=by rw [e1,sigs_mid]
 rw [e0] at h hy hya
 have e3:sigsOf (its.set k (.sig {t with parent:=y}))=sigsOf ia ++ {t with parent:=y}::sigsOf ib:=by rw [e2,sigs_mid]
 have ht:t∈sigsOf ia++t::sigsOf ib:=by simp
 obtain ⟨u1,u2,u3⟩:=h.upA ht hA
 generalize hT:({t with parent:=y}:Sg)=t' at *
 have nm:t'.names=t.names:=by rw [← hT]
 have hts:t'.sups=[]:=by rw [← hT];exact u2
 have htp:t'.parent=y:=by rw [← hT]
 have hyk:y∈keys (rowsS (sigsOf ia++t::sigsOf ib)):=List.mem_map_of_mem (f:=Prod.fst) (mem_of_look hy)
 have hy0:y≠"":=fun e=>by
  obtain ⟨k,hk,q⟩:=key_pool h hyk
  rw [e] at q
  have:∀ k:Nat,k < 4→("" : Str)≠(poolN k).1∧("" : Str)≠(poolN k).2:=fun k hk=>match k,hk with
   | 0,_=>by decide +kernel
   | 1,_=>by decide +kernel
   | 2,_=>by decide +kernel
   | 3,_=>by decide +kernel
  exact q.elim (this k hk).1 (this k hk).2
 have hup:t'.up=[y]:=by unfold Sg.up;rw [htp,hts,if_neg hy0];rfl
 have g1:Good BadSig (sigsOf ia++t'::sigsOf ib):=sig_repl h nm (by rw [← hT];exact (h.nd t ht).2)
 have nd':(keys (rowsS (sigsOf ia++t'::sigsOf ib))).Nodup:=by rw [keys_repl nm];exact h.keysNd
 have g2:=row_good h nm (fun _=>hts) fun n pre hb=>by
  rcases hb with ⟨u,hu,hn⟩ | ⟨_,q,hq,hqs⟩
  ·rw [hup] at hu
   rw [keys_repl nm,List.mem_singleton.mp hu] at hn
   exact hn hyk
  ·have hq:look (rowsS (sigsOf ia++t'::sigsOf ib)) t'.parent=some q:=hq
   rw [htp] at hq
   by_cases hz:y∈t.names
   ·rw [look_in h nm hz] at hq
    cases hq;exact hqs hts
   ·rw [look_out h nm hz,hy] at hq
    cases hq;exact hqs hys
 have mono:∀ z u,u∈upOf (rowsS (sigsOf ia++t::sigsOf ib)) z→u∈upOf (rowsS (sigsOf ia++t'::sigsOf ib)) z:=fun z u hu=>by
  unfold upOf at hu ⊢
  by_cases hz:z∈t.names
  ·rw [look_in (t:=t) (t':=t) h rfl hz] at hu
   have hu:u∈t.up:=hu
   rw [u1] at hu;cases hu
  ·rw [look_out h nm hz];exact hu
 have hAA:Above (rowsS (sigsOf ia++t'::sigsOf ib)) "A" "A":=by
  unfold Above
  have:upOf (rowsS (sigsOf ia++t'::sigsOf ib)) "A" = [y]:=by unfold upOf;rw [look_in h nm hA];exact hup
  conv=>arg 2;rw [this]
  rcases hya with e | hr
  ·rw [e];exact .here (.head _)
  ·have h1:Reach (upOf (rowsS (sigsOf ia++t'::sigsOf ib))) (upOf (rowsS (sigsOf ia++t::sigsOf ib)) y) "A":=Reach.up mono hr
   exact h1.mono fun z hz=>.on (.here (.head _)) (mono y z hz)
 obtain ⟨p,r,hpr⟩:=ring_left (rows:=rowsS (sigsOf ia++t'::sigsOf ib)) (C:=fun z=>Above (rowsS (sigsOf ia++t'::sigsOf ib)) z "A") (fun p hp hc=>by
  have hc:Reach (upOf (rowsS (sigsOf ia++t'::sigsOf ib))) (upOf (rowsS (sigsOf ia++t'::sigsOf ib)) p.1) "A":=hc
  rw [look_mem nd' hp] at hc
  obtain ⟨u,hu,e | hr⟩:=reach_head hc
  ·exact ⟨u,hu,e▸hAA⟩
  ·exact ⟨u,hu,hr⟩) (z:="A") (by rw [keys_repl nm];exact h.key (k:=0) (by decide)) hAA
 rw [e3]
 exact ⟨g1,p,r,hpr,.ring (by rw [e3];exact g1) (by rw [e3];exact g2) (by rw [e3];exact hpr)⟩
end Mine
end
section
namespace Mine
variable {its:List Im} {k:Nat} {t t':Sg} {ts a b:List Sg} {rows:List (Str×Sg)} {f:Sg→List Dc}
noncomputable def gD (f:Sg→List Dc) (u:Sg):Sg:={u with decls:=f u}
noncomputable def gR (f:Sg→List Dc) (rows:List (Str×Sg)):List (Str×Sg):=rows.map fun p=>(p.1,gD f p.2)
theorem rows_gD {ts:List Sg}:rowsS (ts.map (gD f))=gR f (rowsS ts):=by
 induction ts with
 | nil=>rfl
 | cons t r ih=>
  show t.names.map (·,gD f t)++rowsS (r.map (gD f))=gR f (t.names.map (·,t)++rowsS r)
  rw [ih]
  unfold gR
  rw [List.map_append,List.map_map];rfl
theorem keys_gR:keys (gR f rows)=keys rows:=by unfold keys gR;rw [List.map_map];rfl
theorem look_gR {z:Str}:look (gR f rows) z=(look rows z).map (gD f):=by
 unfold look gR
 rw [List.find?_map]
 show Option.map _ (Option.map _ (rows.find? fun p=>decide (p.1=z)))=_
 cases rows.find? fun p=>decide (p.1=z)<;>rfl
theorem up_gR:upOf (gR f rows)=upOf rows:=by
 funext z
 unfold upOf
 rw [look_gR]
 cases look rows z<;>rfl
theorem above_gR:Above (gR f rows)=Above rows:=by
 funext y o
 unfold Above
 rw [up_gR]
theorem badF_gR:BadField (gR f rows)=BadField rows:=by
 funext pre q
 unfold BadField
 rw [keys_gR,above_gR]
theorem toldF_gR (n:Nat) (found:List Str) (left:List (Str×Sg)):toldF n found (gR f left)=((toldF n found left).1,gR f (toldF n found left).2):=by
 induction n generalizing found left with
 | zero=>rfl
 | succ n ih=>
  have e:(gR f left).findIdx? (fun p=>ready found p.2)=left.findIdx? (fun p=>ready found p.2):=by
   unfold gR
   rw [List.findIdx?_map];rfl
  unfold toldF
  rw [e]
  cases hf:left.findIdx? (fun p=>ready found p.2) with
  | none=>rfl
  | some k=>
   dsimp only
   have e1:(gR f left).eraseIdx k=gR f (left.eraseIdx k):=by unfold gR;rw [eraseIdx_map]
   have e2:((gR f left)[k]?.map Prod.fst)=(left[k]?.map Prod.fst):=by
    unfold gR
    rw [List.getElem?_map]
    cases left[k]? <;> rfl
   rw [e1,e2]
   exact ih _ _
theorem told_gR:told (gR f rows)=((told rows).1,gR f (told rows).2):=by
 unfold told
 have:(gR f rows).length=rows.length:=by simp [gR]
 rw [this]
 exact toldF_gR _ _ _
theorem sig_gD (h:Four ts):Good BadSig (ts.map (gD f)):=
 good_of (List.pairwise_map.mpr h.apart) fun u hu=>by
  obtain ⟨v,hv,rfl⟩:=List.mem_map.mp hu
  have:=h.nd v hv
  exact ⟨this.1,fun q=>by have e:v.abs=true:=q.2;rw [this.2] at e;cases e⟩
theorem row_gD (h:Four ts):Good (BadRow (gR f (rowsS ts))) (gR f (rowsS ts)):=fun pre p post e hb=>by
 have hp:p∈gR f (rowsS ts):=by rw [e];simp
 obtain ⟨p0,hp0,rfl⟩:=List.mem_map.mp hp
 obtain ⟨l1,l2,e2⟩:=List.append_of_mem hp0
 refine h.row l1 p0 l2 e2 ?_
 rcases hb with ⟨u,hu,hn⟩ | ⟨hpar,q,hq,hs⟩
 ·rw [keys_gR] at hn
  exact .inl ⟨u,hu,hn⟩
 ·rw [look_gR] at hq
  obtain ⟨q0,hq0,rfl⟩:=Option.map_eq_some_iff.mp hq
  exact .inr ⟨hpar,q0,hq0,hs⟩
theorem declsOf_at {order:List Str}:declsOf rows order=order.flatMap fun m=>(declsAt rows m).map (m,·):=by
 unfold declsOf
 congr 1
 funext m
 unfold declsAt
 cases look rows m<;>rfl
theorem declsOf_congr {rows':List (Str×Sg)} {order:List Str} (h:∀ m∈order,declsAt rows' m=declsAt rows m):declsOf rows' order=declsOf rows order:=by
 induction order with
 | nil=>rfl
 | cons m r ih=>
  have ih:=ih fun x hx=>h x (.tail _ hx)
  rw [declsOf_at,declsOf_at] at ih ⊢
  rw [List.flatMap_cons,List.flatMap_cons,ih,h m (.head _)]
theorem declsOf_app {o1 o2:List Str}:declsOf rows (o1++o2)=declsOf rows o1++declsOf rows o2:=by unfold declsOf;rw [List.flatMap_append]
theorem declsOf_cons {n:Str} {o:List Str}:declsOf rows (n::o)=(declsAt rows n).map (n,·)++declsOf rows o:=by rw [declsOf_at,declsOf_at,List.flatMap_cons]
theorem declsAt_gR {m:Str} {u:Sg} (h:look rows m=some u):declsAt (gR f rows) m=f u:=by unfold declsAt;rw [look_gR,h];rfl
theorem first_in {P:Str→Prop} {l:List Str} {x:Str} (hx:x∈l) (hp:P x):∃ l1 n l2,l=l1++n::l2∧P n∧∀ m∈l1,¬ P m:=by
 induction l with
 | nil=>cases hx
 | cons y r ih=>
  by_cases hy:P y
  ·exact ⟨[],y,r,rfl,hy,fun _ h=>nomatch h⟩
  ·rcases List.mem_cons.mp hx with e | hx
   ·exact (hy (e▸hp)).elim
   ·obtain ⟨l1,n,l2,e,h1,h2⟩:=ih hx
    exact ⟨y::l1,n,l2,by rw [e];rfl,h1,fun m hm=>(List.mem_cons.mp hm).elim (fun q=>by rw [q];exact hy) (h2 m)⟩
theorem Four.one {ts:List Sg} (h:Four ts) {u v:Sg} (hu:u∈ts) (hv:v∈ts) {x:Str} (h1:x∈u.names) (h2:x∈v.names):u=v:=by
 have a1:=look_of_nd (p:=(x,u)) h.keysNd (mem_rows.mpr ⟨hu,h1⟩)
 have a2:=look_of_nd (p:=(x,v)) h.keysNd (mem_rows.mpr ⟨hv,h2⟩)
 rw [a1] at a2
 exact Option.some.inj a2
noncomputable def mapI (g:Sg→Sg):Im→Im
 | .sig t=>.sig (g t)
 | .opn o=>.opn o
theorem sigs_mapI {g:Sg→Sg} {its:List Im}:sigsOf (its.map (mapI g))=(sigsOf its).map g:=by
 induction its with
 | nil=>rfl
 | cons i r ih=>
  cases i with
  | sig t=>exact congrArg (g t :: ·) ih
  | opn o=>exact ih
theorem set_mapI {g:Sg→Sg} {y:Str} (hp:(sigsOf its).Pairwise fun a b=>∀ x∈a.names,x∉b.names) (hk:its[k]? = some (.sig t)) (hy:y∈t.names) (hg:∀ u,y∉u.names→g u=u):its.set k (.sig (g t))=its.map (mapI g):=by
 obtain ⟨ia,ib,e1,e2,_⟩:=set_split hk (.sig (g t))
 have same:∀ l:List Im,(∀ u∈sigsOf l,y∉u.names)→l.map (mapI g)=l:=by
  intro l
  induction l with
  | nil=>intro _;rfl
  | cons im r ih=>
   intro h
   cases im with
   | sig u=>
    have h1:=ih fun v hv=>h v (.tail _ hv)
    show Im.sig (g u)::r.map (mapI g)=_
    rw [h1,hg u (h u (.head _))]
   | opn o=>
    have h1:=ih fun v hv=>h v hv
    show Im.opn o::r.map (mapI g)=_
    rw [h1]
 rw [e1,sigs_mid] at hp
 rw [List.pairwise_append] at hp
 obtain ⟨_,p2,p3⟩:=hp
 rw [e2,e1,List.map_append,List.map_cons,same ia (fun u hu hyu=>p3 u hu t (by simp) y hyu hy),same ib (fun u hu=>(List.pairwise_cons.mp p2).1 u hu y hy)]
 rfl
theorem field_go (h:Four ts) (e:sigsOf its=ts.map (gD f)) {x:Fd} (hf:First (BadField (rowsS ts)) (numbered 0 (declsOf (gR f (rowsS ts)) (told (rowsS ts)).1)) x):Refused its x.spot:=by
 have e2:rowsS (sigsOf its)=gR f (rowsS ts):=by rw [e,rows_gD]
 refine Refused.field (f:=x) (by rw [e];exact sig_gD h) (by rw [e2];exact row_gD h) (by rw [e2,told_gR,h.ring];rfl) ?_
 rw [e2,badF_gR]
 unfold ownF
 rw [told_gR]
 exact hf
noncomputable def d600 (y:Str):Dc:=⟨600,false,[y]⟩
theorem way5 (hm:IsModel its) (hk:its[k]? = some (.sig t)) {y1 y:Str} (hy1:y1∈t.names) (hy:y∈keys (rowsS (sigsOf its))):Refused (its.set k (.sig {t with decls:=d600 y::t.decls})) 600:=by
 have h:=hm.four.1
 have ht:t∈sigsOf its:=mem_sigsOf (List.mem_of_getElem? hk)
 let f:Sg→List Dc:=fun u=>if y1∈u.names then d600 y::u.decls else u.decls
 have e0:({t with decls:=d600 y::t.decls}:Sg)=gD f t:=by show _=({t with decls:=f t}:Sg);simp only [f,if_pos hy1]
 rw [e0,set_mapI h.apart hk hy1 (fun u hu=>by show ({u with decls:=f u}:Sg)=u;simp only [f,if_neg hu])]
 have hord:y1∈(told (rowsS (sigsOf its))).1:=h.order.mem_iff.mpr (mem_keys.mpr ⟨t,ht,hy1⟩)
 obtain ⟨o1,n,o2,eo,hn,ho1⟩:=first_in (P:=fun z=>z∈t.names) hord hy1
 have atn:declsAt (gR f (rowsS (sigsOf its))) n=d600 y::t.decls:=by
  rw [declsAt_gR (look_of_nd (p:=(n,t)) h.keysNd (mem_rows.mpr ⟨ht,hn⟩))]
  simp only [f,if_pos hy1]
 have at1:∀ m∈o1,declsAt (gR f (rowsS (sigsOf its))) m=declsAt (rowsS (sigsOf its)) m:=fun m hm=>by
  obtain ⟨u,hu⟩:=look_of_mem (told_sub (y:=m) (by rw [eo];simp [hm]))
  obtain ⟨h1,h2⟩:=mem_rows.mp (mem_of_look hu)
  rw [declsAt_gR hu]
  unfold declsAt
  rw [hu]
  have:y1∉u.names:=fun hyu=>ho1 m hm (by rw [h.one ht h1 hy1 hyu];exact h2)
  simp only [f,if_neg this]
 refine field_go (x:=⟨y,n,600,-1⟩) h sigs_mapI ⟨numbered 0 (declsOf (rowsS (sigsOf its)) o1),numbered (0+groupsUp (declsOf (rowsS (sigsOf its)) o1)+0) (t.decls.map (n,·)++declsOf (gR f (rowsS (sigsOf its))) o2),?_,?_,.inl hy⟩
 ·rw [eo,declsOf_app,declsOf_cons,atn,declsOf_congr at1,numbered_append]
  rfl
 ·have:=h.field
  unfold ownF at this
  rw [eo,declsOf_app,numbered_append] at this
  exact this.left
end Mine
end
section
namespace Mine
variable {its:List Im} {k:Nat} {t t':Sg} {ts a b:List Sg} {rows:List (Str×Sg)} {f:Sg→List Dc}
theorem told_pre (nd:(keys rows).Nodup) (n:Nat) (found:List Str) (left:List (Str×Sg)) (hl:∀ p∈left,p∈rows) (h:∀ pre m post,found=pre++m::post→∀ p∈rows,p.1=m→∀ u∈p.2.up,u∈pre) :
  ∀ pre m post,(toldF n found left).1=pre++m::post→∀ p∈rows,p.1=m→∀ u∈p.2.up,u∈pre:=by
 induction n generalizing found left with
 | zero=>exact h
 | succ n ih=>
  unfold toldF
  cases hf:left.findIdx? (fun p=>ready found p.2) with
  | none=>exact h
  | some k=>
   obtain ⟨hk,hr,_⟩:=List.findIdx?_eq_some_iff_getElem.mp hf
   have e:left[k]? = some left[k]:=List.getElem?_eq_getElem hk
   refine ih _ _ (fun p hp=>hl p (List.mem_of_mem_eraseIdx hp)) ?_
   intro pre m post ep p hp hpm u hu
   rw [e] at ep
   have ep:found++[left[k].1]=pre++m::post:=ep
   rcases List.eq_nil_or_concat post with rfl | ⟨post',z,rfl⟩
   ·obtain ⟨e1,e2⟩:=List.append_inj' ep rfl
    have e2:left[k].1=m:=by simpa using e2
    have hq:=hl _ (List.getElem_mem hk)
    have:p=left[k]:=by
     have a1:=look_of_nd nd hp
     have a2:=look_of_nd nd hq
     rw [hpm] at a1
     rw [e2,a1] at a2
     have h2:p.2=left[k].2:=Option.some.inj a2
     exact Prod.ext (hpm.trans e2.symm) h2
    rw [this] at hu
    unfold ready at hr
    rw [← e1]
    simpa using List.all_eq_true.mp hr u hu
   ·have e':found++[left[k].1]=(pre++m::post')++[z]:=by simpa using ep
    exact h pre m post' (List.append_inj' e' rfl).1 p hp hpm u hu
theorem told_above (h:Four ts) {pre post:List Str} {m o:Str} (e:(told (rowsS ts)).1=pre++m::post) (ha:Above (rowsS ts) m o):o∈pre:=by
 have hp:∀ pre m post,(told (rowsS ts)).1=pre++m::post→∀ u∈upOf (rowsS ts) m,u∈pre:=fun pre m post e u hu=>by
  unfold upOf at hu
  cases hm:look (rowsS ts) m with
  | none=>rw [hm] at hu;cases hu
  | some t=>
   rw [hm] at hu
   exact told_pre h.keysNd _ [] _ (fun _ h=>h) (fun pre m post e=>by cases pre<;>cases e) pre m post e (m,t) (mem_of_look hm) rfl u hu
 have key:∀ {ws:List Str} {o:Str},Reach (upOf (rowsS ts)) ws o→(∀ u∈ws,u∈pre)→o∈pre:=fun hr=>by
  induction hr with
  | here h=>exact fun hw=>hw _ h
  | on _ h2 ih=>
   intro hw
   obtain ⟨p1,p2,ep⟩:=List.append_of_mem (ih hw)
   have:=hp p1 _ (p2++m::post) (by rw [e,ep];simp) _ h2
   rw [ep]
   exact List.mem_append_left _ this
 exact key ha (hp pre m post e)
noncomputable def d6 (z:Int):Dc:=⟨z,false,["h"]⟩
noncomputable def f1 (u:Sg):List Dc:=u.decls++(if ("A" : Str)∈u.names then [d6 601] else [])
theorem hlen:("h" : Str).length=1:=by decide
theorem own_f1 (h:Four ts) {q:Fd} (hq:q∈numbered 0 (declsOf (gR f1 (rowsS ts)) (told (rowsS ts)).1)) :
  ((∃ k j:Nat,k < 4∧j < 2∧Mine.rk q.name=k∧(q.field=fN "f" k j∨q.field=fN "g" k j))∨(Mine.rk q.name=0∧q.field = "h"))∧∃ t,look (rowsS ts) q.name=some t:=by
 obtain ⟨p,hp,e1,e2,_⟩:=numbered_mem hq
 obtain ⟨_,t1,ht1,hm⟩:=declsOf_mem hp
 rw [look_gR] at ht1
 obtain ⟨t,ht,rfl⟩:=Option.map_eq_some_iff.mp ht1
 obtain ⟨h1,h2⟩:=mem_rows.mp (mem_of_look ht)
 obtain ⟨k,hk,hs⟩:=h.sig t h1
 refine ⟨?_,t,by rw [e1];exact ht⟩
 have hm:p.2∈t.decls++(if ("A" : Str)∈t.names then [d6 601] else []):=hm
 rcases List.mem_append.mp hm with hm | hm
 ·left
  obtain ⟨j,hj⟩:=List.getElem?_of_mem hm
  have hl:=(List.getElem?_eq_some_iff.mp hj).1
  obtain ⟨h3,h4⟩:=hs.decls
  obtain ⟨_,h5⟩:=h4 j _ hj
  rw [h5] at e2
  refine ⟨k,j,hk,by exact q2 ‹_› ‹_›,by rw [e1];exact hs.rk hk _ h2,?_⟩
  split at e2
  ·simpa using e2
  ·exact .inl (by simpa using e2)
 ·right
  split at hm
  ·rename_i hA
   rw [List.mem_singleton.mp hm] at e2
   refine ⟨?_,by simpa [d6] using e2⟩
   rw [e1,hs.rk hk _ h2,← hs.rk hk _ hA]
   decide +kernel
  ·cases hm
theorem field_f1 (h:Four ts):Good (BadField (rowsS ts)) (numbered 0 (declsOf (gR f1 (rowsS ts)) (told (rowsS ts)).1)):=fun pre q post e hb=>by
 have hq:q∈numbered 0 (declsOf (gR f1 (rowsS ts)) (told (rowsS ts)).1):=by rw [e];simp
 obtain ⟨hc,t,ht⟩:=own_f1 h hq
 have len:∀ {k j:Nat},k < 4→j < 2→∀ {x:Str},(x=fN "f" k j∨x=fN "g" k j)→x.length=3:=fun hk hj x hx=>by
  rcases hx with e | e<;>rw [e]<;>exact fN_len (by decide) hk (by exact q1 ‹_›)
 rcases hb with hb | ⟨o,ho,q',hq',hqf,hqn⟩
 ·rcases hc with ⟨k,j,hk,hj,_,hfx⟩ | ⟨_,hfx⟩
  ·obtain ⟨t',ht',hx⟩:=mem_keys.mp hb
   obtain ⟨k',hk',hs'⟩:=h.sig t' ht'
   have a1:=hs'.nlen hk' _ hx
   have a2:=len hk hj hfx
   omega
  ·rw [hfx] at hb;exact h.noZ.2 hb
 ·have hqm:q'∈numbered 0 (declsOf (gR f1 (rowsS ts)) (told (rowsS ts)).1):=by rw [e];exact List.mem_append_left _ hq'
  obtain ⟨hc',_⟩:=own_f1 h hqm
  have hkk:Mine.rk q'.name=Mine.rk q.name:=by
   rw [hqf] at hc'
   rcases hc with ⟨k,j,hk,hj,hr,hfx⟩ | ⟨hr,hfx⟩<;>rcases hc' with ⟨k',j',hk',hj',hr',hfx'⟩ | ⟨hr',hfx'⟩
   ·rw [hr,hr']
    have:=fN_k hk' hk hj' hj
    rcases hfx with e1 | e1<;>rcases hfx' with e2 | e2<;>rw [e1] at e2
    ·exact (this.1 e2.symm)
    ·exact (this.2.2.2 e2.symm)
    ·exact (this.2.2.1 e2.symm)
    ·exact (this.2.1 e2.symm)
   ·have a1:=len hk hj hfx
    rw [hfx',hlen] at a1;omega
   ·have a1:=len hk' hj' hfx'
    rw [hfx,hlen] at a1;omega
   ·rw [hr,hr']
  rcases ho with rfl | ho
  ·have nd:((numbered 0 (declsOf (gR f1 (rowsS ts)) (told (rowsS ts)).1)).map fun f=>(f.name,f.field)).Nodup:=by
    rw [numbered_pairs]
    refine (pairs_nodup (fun n t1 hl=>?_) (h.order.nodup_iff.mpr h.keysNd)).1
    rw [look_gR] at hl
    obtain ⟨t,ht,rfl⟩:=Option.map_eq_some_iff.mp hl
    obtain ⟨h1,_⟩:=mem_rows.mp (mem_of_look ht)
    obtain ⟨k,hk,hs⟩:=h.sig t h1
    show ((f1 t).flatMap (·.fields)).Nodup
    unfold f1
    rw [List.flatMap_append]
    refine List.nodup_append.mpr ⟨hs.fields hk,by split<;>simp [d6],fun x hx y hy exy=>?_⟩
    obtain ⟨d,hd,hxd⟩:=List.mem_flatMap.mp hx
    obtain ⟨j,hj⟩:=List.getElem?_of_mem hd
    have hl:=(List.getElem?_eq_some_iff.mp hj).1
    obtain ⟨h3,h4⟩:=hs.decls
    obtain ⟨_,h5⟩:=h4 j _ hj
    rw [h5] at hxd
    have a1:x.length=3:=len hk (j:=j) (by exact q2 ‹_› ‹_›) (by
     split at hxd
     ·simpa using hxd
     ·exact .inl (by simpa using hxd))
    have a2:y = "h":=by
     split at hy
     ·simpa [d6] using hy
     ·simp at hy
    rw [exy,a2,hlen] at a1;omega
   rw [e,List.map_append,List.map_cons] at nd
   obtain ⟨_,_,h3⟩:=List.nodup_append.mp nd
   exact h3 (q'.name,q'.field) (List.mem_map_of_mem hq') (q.name,q.field) (.head _) (by rw [hqf,hqn])
  ·have:=h.above ht ho
   rw [← hqn] at this
   omega
noncomputable def f2 (y:Str) (u:Sg):List Dc:=f1 u++(if y∈u.names then [d6 602] else [])
theorem way6 (hm:IsModel its) {kA:Nat} {tA:Sg} (hkA:its[kA]? = some (.sig tA)) (hA:("A" : Str)∈tA.names) (hk:its[k]? = some (.sig t)) {y:Str} (hy:y∈t.names) (hya:y = "A"∨Above (rowsS (sigsOf its)) y "A") :
  (its.set kA (.sig {tA with decls:=tA.decls++[d6 601]}))[k]? = some (.sig {t with decls:=f1 t})∧Refused ((its.set kA (.sig {tA with decls:=tA.decls++[d6 601]})).set k (.sig {t with decls:=f1 t++[d6 602]})) 602:=by
 have h:=hm.four.1
 have ht:t∈sigsOf its:=mem_sigsOf (List.mem_of_getElem? hk)
 have htA:tA∈sigsOf its:=mem_sigsOf (List.mem_of_getElem? hkA)
 have e0:({tA with decls:=tA.decls++[d6 601]}:Sg)=gD f1 tA:=by show _=({tA with decls:=f1 tA}:Sg);unfold f1;rw [if_pos hA]
 rw [e0,set_mapI h.apart hkA hA (fun u hu=>by show ({u with decls:=f1 u}:Sg)=u;unfold f1;rw [if_neg hu,List.append_nil])]
 have hk1:(its.map (mapI (gD f1)))[k]? = some (.sig {t with decls:=f1 t}):=by rw [List.getElem?_map,hk];rfl
 refine ⟨hk1,?_⟩
 have hp1:(sigsOf (its.map (mapI (gD f1)))).Pairwise fun a b=>∀ x∈a.names,x∉b.names:=by rw [sigs_mapI];exact List.pairwise_map.mpr h.apart
 let g2:Sg→Sg:=fun u=>{u with decls:=u.decls++(if y∈u.names then [d6 602] else [])}
 have e1:({t with decls:=f1 t++[d6 602]}:Sg)=g2 {t with decls:=f1 t}:=by
  show _=({t with decls:=f1 t++(if y∈t.names then [d6 602] else [])}:Sg)
  rw [if_pos hy]
 rw [e1,set_mapI (g:=g2) hp1 hk1 hy (fun u hu=>by show ({u with decls:=u.decls++(if y∈u.names then [d6 602] else [])}:Sg)=u;rw [if_neg hu,List.append_nil])]
 have e2:sigsOf ((its.map (mapI (gD f1))).map (mapI g2))=(sigsOf its).map (gD (f2 y)):=by
  rw [sigs_mapI,sigs_mapI,List.map_map];rfl
 have hord:y∈(told (rowsS (sigsOf its))).1:=h.order.mem_iff.mpr (mem_keys.mpr ⟨t,ht,hy⟩)
 obtain ⟨o1,n,o2,eo,hn,ho1⟩:=first_in (P:=fun z=>z∈t.names) hord hy
 have hln:look (rowsS (sigsOf its)) n=some t:=look_of_nd (p:=(n,t)) h.keysNd (mem_rows.mpr ⟨ht,hn⟩)
 have hly:look (rowsS (sigsOf its)) y=some t:=look_of_nd (p:=(y,t)) h.keysNd (mem_rows.mpr ⟨ht,hy⟩)
 have atn:declsAt (gR (f2 y) (rowsS (sigsOf its))) n=f1 t++[d6 602]:=by
  rw [declsAt_gR hln]
  unfold f2;rw [if_pos hy]
 have at1:∀ m∈o1,declsAt (gR (f2 y) (rowsS (sigsOf its))) m=declsAt (gR f1 (rowsS (sigsOf its))) m:=fun m hm=>by
  obtain ⟨u,hu⟩:=look_of_mem (told_sub (y:=m) (by rw [eo];simp [hm]))
  obtain ⟨h1,h2⟩:=mem_rows.mp (mem_of_look hu)
  rw [declsAt_gR hu,declsAt_gR hu]
  have:y∉u.names:=fun hyu=>ho1 m hm (by rw [h.one ht h1 hy hyu];exact h2)
  unfold f2;rw [if_neg this,List.append_nil]
 generalize hg:0+groupsUp (declsOf (gR f1 (rowsS (sigsOf its))) o1)=g
 have full:numbered 0 (declsOf (gR f1 (rowsS (sigsOf its))) (told (rowsS (sigsOf its))).1)=(numbered 0 (declsOf (gR f1 (rowsS (sigsOf its))) o1)++numbered g ((f1 t).map (n,·)))++numbered (g+groupsUp ((f1 t).map (n,·))) (declsOf (gR f1 (rowsS (sigsOf its))) o2):=by
  rw [eo,declsOf_app,declsOf_cons,declsAt_gR hln,numbered_append,hg,numbered_append,List.append_assoc]
 refine field_go (f:=f2 y) (x:=⟨"h",n,602,-1⟩) h e2 ⟨numbered 0 (declsOf (gR f1 (rowsS (sigsOf its))) o1)++numbered g ((f1 t).map (n,·)),numbered (g+groupsUp ((f1 t).map (n,·))+0) (declsOf (gR (f2 y) (rowsS (sigsOf its))) o2),?_,?_,.inr ?_⟩
 ·rw [eo,declsOf_app,declsOf_cons,atn,declsOf_congr at1,List.map_append,numbered_append,hg,List.append_assoc,numbered_append,List.append_assoc]
  rfl
 ·have:=field_f1 h
  rw [full] at this
  exact this.left
 ·by_cases hAt:("A" : Str)∈t.names
  ·refine ⟨n,.inl rfl,⟨"h",n,601,-1⟩,List.mem_append_right _ ?_,rfl,rfl⟩
   unfold f1
   rw [if_pos hAt,List.map_append,numbered_append]
   exact List.mem_append_right _ (.head _)
  ·have hab:Above (rowsS (sigsOf its)) n "A":=by
    have:Above (rowsS (sigsOf its)) y "A":=hya.resolve_left fun e=>hAt (e▸hy)
    unfold Above at this ⊢
    have e3:upOf (rowsS (sigsOf its)) n=upOf (rowsS (sigsOf its)) y:=by unfold upOf;rw [hln,hly]
    rw [e3];exact this
   refine ⟨"A",.inr hab,⟨"h","A",601,-1⟩,List.mem_append_left _ ?_,rfl,rfl⟩
   have hA1:=told_above h eo hab
   obtain ⟨q1,q2,eq⟩:=List.append_of_mem hA1
   have hlA:look (rowsS (sigsOf its)) "A" = some tA:=look_of_nd (p:=("A",tA)) h.keysNd (mem_rows.mpr ⟨htA,hA⟩)
   rw [eq,declsOf_app,declsOf_cons,declsAt_gR hlA,numbered_append,numbered_append]
   refine List.mem_append_right _ (List.mem_append_left _ ?_)
   unfold f1
   rw [if_pos hA,List.map_append,numbered_append]
   exact List.mem_append_right _ (.head _)
end Mine
end
section
namespace Mine
variable {its:List Im} {k j:Nat} {t t':Sg} {ts a b:List Sg} {rows:List (Str×Sg)} {f:Sg→List Dc} {o:Opn}
theorem ins_eq:its.take j++[.opn o]++its.drop j=its.take j ++ .opn o::its.drop j:=by simp
theorem sigs_ins:sigsOf (its.take j++[.opn o]++its.drop j)=sigsOf its:=by
 rw [ins_eq,sigsOf_append]
 show sigsOf (its.take j)++sigsOf (its.drop j)=_
 rw [← sigsOf_append,List.take_append_drop]
theorem opns_sigs (ts:List Sg):opnsOf (ts.map .sig)=[]:=by
 induction ts with
 | nil=>rfl
 | cons _ r ih=>exact ih
theorem opns_ins (hm:IsModel its) (hj:j≤its.length):opnsOf (its.take j++[.opn o]++its.drop j)=if j < its.length then [o,stdO] else [stdO,o]:=by
 obtain ⟨t0,t1,t2,t3,ts,s0,s1,s2,s3,q,rfl⟩:=hm
 have hl:(ts.map Im.sig++[Im.opn stdO]).length=ts.length+1:=by simp
 rw [hl] at hj ⊢
 rw [ins_eq,opnsOf_append]
 show opnsOf _++o::opnsOf _=_
 by_cases h:j < ts.length+1
 ·rw [if_pos h,List.take_append_of_le_length (by simp;omega),List.drop_append_of_le_length (by simp;omega),← List.map_take,← List.map_drop,opnsOf_append,opns_sigs,opns_sigs]
  rfl
 ·have:j=(ts.map Im.sig++[Im.opn stdO]).length:=by rw [hl];omega
  rw [if_neg h,this,List.take_length,List.drop_length,opnsOf_append,opns_sigs]
  rfl
theorem opn_go (hm:IsModel its) {x:Opn} (hf:First (BadOpn (rowsS (sigsOf its))) (opnsOf (its.take j++[.opn o]++its.drop j)) x):Refused (its.take j++[.opn o]++its.drop j) x.spot:=by
 have h:=hm.taken
 refine Refused.opn ?_ ?_ ?_ ?_ ?_<;>rw [sigs_ins]
 ·exact h.sig
 ·exact h.row
 ·exact h.ring
 ·exact h.field
 ·exact hf
theorem opn_bad (hm:IsModel its) (hj:j≤its.length) (hb:∀ pre,BadOpn (rowsS (sigsOf its)) pre o):Refused (its.take j++[.opn o]++its.drop j) o.spot:=by
 refine opn_go hm ?_
 rw [opns_ins hm hj]
 split
 ·exact ⟨[],[stdO],rfl,Good.nil,hb _⟩
 ·exact ⟨[stdO],[],rfl,hm.four.1.opn,hb _⟩
noncomputable def lateO:Nat→Opn
 | 0=>⟨700,"util/ordering",["Z"],"w"⟩
 | 1=>⟨700,"util/ordering",["C"],"o"⟩
 | 2=>⟨700,"util/other",["A"],"w"⟩
 | _=>⟨700,"util/ordering",["A","C"],"w"⟩
theorem way7 (hm:IsModel its) (hj:j≤its.length) {i:Nat} (hi:i < 4):Refused (its.take j++[.opn (lateO i)]++its.drop j) (if i=1∧j < its.length then 90 else 700):=by
 have h:=hm.four.1
 match i,hi with
 | 0,_=>exact opn_bad (o:=lateO 0) hm hj fun pre=>.inr (.inr (.inl ⟨"Z",.head _,h.noZ.1⟩))
 | 2,_=>exact opn_bad (o:=lateO 2) hm hj fun pre=>.inl (by decide)
 | 3,_=>exact opn_bad (o:=lateO 3) hm hj fun pre=>.inr (.inl (by decide))
 | 1,_=>
  have ok:¬ BadOpn (rowsS (sigsOf its)) [] (lateO 1):=fun hb=>by
   rcases hb with hb | hb | ⟨x,hx,hn⟩ | ⟨q,hq,_⟩
   ·exact hb rfl
   ·exact hb rfl
   ·rw [List.mem_singleton.mp hx] at hn
    exact hn (h.key (k:=1) (by decide))
   ·cases hq
  by_cases hl:j < its.length
  ·rw [if_pos ⟨rfl,hl⟩]
   refine opn_go (x:=stdO) hm ?_
   rw [opns_ins hm hj,if_pos hl]
   exact ⟨[lateO 1],[],rfl,Good.snoc Good.nil ok,.inr (.inr (.inr ⟨lateO 1,.head _,by decide⟩))⟩
  ·rw [if_neg fun q=>hl q.2]
   refine opn_go (x:=lateO 1) hm ?_
   rw [opns_ins hm hj,if_neg hl]
   exact ⟨[stdO],[],rfl,h.opn,.inr (.inr (.inr ⟨stdO,.head _,by decide⟩))⟩
theorem IsModel.len {its:List Im} (hm:IsModel its):its.length=5:=by
 obtain ⟨t0,t1,t2,t3,ts,s0,s1,s2,s3,q,rfl⟩:=hm
 have:=q.length_eq
 simp at this ⊢;exact ‹_›
theorem Tame.insO (h:Tame its) (hl:its.length≤10) (ho:TameO o) (j:Nat):Tame (its.take j++[.opn o]++its.drop j):=by
 refine ⟨by rw [ins_eq];simp;omega,fun u hu=>?_,fun o' ho'=>?_⟩
 ·rw [sigs_ins] at hu;exact h.sigs u hu
 ·rw [ins_eq,opnsOf_append] at ho'
  have e:opnsOf its=opnsOf (its.take j)++opnsOf (its.drop j):=by rw [← opnsOf_append,List.take_append_drop]
  rcases List.mem_append.mp ho' with h1 | h1
  ·exact h.opns o' (by rw [e];simp [h1])
  ·rcases List.mem_cons.mp h1 with e1 | h1
   ·rw [e1];exact ho
   ·exact h.opns o' (by rw [e];simp [h1])
theorem tame_late:∀ i:Nat,TameO (lateO i)
 | 0=>⟨by decide,by decide,fun a ha=>by rw [List.mem_singleton.mp ha];decide,by decide +kernel,by decide⟩
 | 1=>⟨by decide,by decide,fun a ha=>by rw [List.mem_singleton.mp ha];decide,by decide +kernel,by decide⟩
 | 2=>⟨by decide,by decide,fun a ha=>by rw [List.mem_singleton.mp ha];decide,by decide +kernel,by decide⟩
 | _+3=>⟨by show ("util/ordering" : Str).length≤1000;decide,by show (2:Nat)≤10;decide,fun a ha=>by
   have ha:a∈(["A","C"]:List Str):=ha
   simp only [List.mem_cons,List.not_mem_nil,or_false] at ha
   rcases ha with e | e<;>rw [e]<;>decide,by show PyData.strOk (alOf ⟨700,"util/ordering",["A","C"],"w"⟩)=true;decide +kernel,by show (alOf ⟨700,"util/ordering",["A","C"],"w"⟩).length≤1000;decide⟩
theorem up_of_sup {t:Sg} {y:Str} (h:y∈t.sups):y∈t.up:=List.mem_append_right _ h
theorem TameS.par (h:TameS t) {p:Str} (hp:okS p):TameS {t with parent:=p}:=
 ⟨h.names,h.sups,fun y hy=>by
  have hy:y∈(if p = "" then [] else [p])++t.sups:=hy
  rcases List.mem_append.mp hy with hy | hy
  ·split at hy
   ·cases hy
   ·rw [List.mem_singleton.mp hy];exact hp
  ·exact h.up y (up_of_sup hy),h.decls⟩
theorem TameS.sup (h:TameS t) (hl:t.sups.length≤2) {p:Str} (hp:okS p):TameS {t with sups:=t.sups++[p]}:=
 ⟨h.names,by simp;exact q1 ‹_›,fun y hy=>by
  have hy:y∈(if t.parent = "" then [] else [t.parent])++(t.sups++[p]):=hy
  rw [← List.append_assoc] at hy
  rcases List.mem_append.mp hy with hy | hy
  ·exact h.up y hy
  ·rw [List.mem_singleton.mp hy];exact hp,h.decls⟩
theorem TameS.ab (h:TameS t):TameS {t with abs:=true}:=⟨h.names,h.sups,h.up,h.decls⟩
theorem TameS.dec (h:TameS t) {l:List Dc} (hl:l.length≤6) (hd:∀ d∈l,d.fields.length≤4∧∀ f∈d.fields,f.length≤1000):TameS {t with decls:=l}:=⟨h.names,h.sups,h.up,hl,hd⟩
theorem okS_Z:okS "Z":=⟨by decide +kernel,by decide⟩
theorem okS_P:okS "P":=⟨by decide +kernel,by decide⟩
theorem tame_d6 (z:Int):(d6 z).fields.length≤4∧∀ f∈(d6 z).fields,f.length≤1000:=⟨by show (1:Nat)≤4;decide,fun f hf=>by
 have hf:f∈(["h"]:List Str):=hf
 rw [List.mem_singleton.mp hf];decide⟩
structure At (its:List Im) (k:Nat) (t:Sg):Prop where
 at_:its[k]? = some (.sig t)
 tame:TameS t
 sups:t.sups.length≤2
 decs:t.decls.length≤2
theorem IsModel.at_ (hm:IsModel its) (hk:its[k]? = some (.sig t)):At its k t:=by
 have ht:t∈sigsOf its:=mem_sigsOf (List.mem_of_getElem? hk)
 obtain ⟨i,hi,hs⟩:=hm.four.1.sig t ht
 exact ⟨hk,hs.tame hi,hs.supOk'.1,hs.decls.1⟩
theorem ofN_some {y:Str} (hy:y∈keys (rowsS (sigsOf its))):∃ (k:Nat) (t:Sg),(ofN its y).head? = some k∧its[k]? = some (Im.sig t)∧y∈t.names:=by
 obtain ⟨t,ht,hyt⟩:=mem_keys.mp hy
 obtain ⟨k,hk⟩:∃ k:Nat,its[k]? = some (Im.sig t):=by
  have:∀ {its:List Im},t∈sigsOf its→Im.sig t∈its:=by
   intro its
   induction its with
   | nil=>intro h;cases h
   | cons im r ih=>
    cases im with
    | sig u=>
     intro h
     rcases List.mem_cons.mp h with e | h
     ·rw [e];exact .head _
     ·exact .tail _ (ih h)
    | opn o=>intro h;exact .tail _ (ih h)
  exact List.getElem?_of_mem (this ht)
 have hkl:=(List.getElem?_eq_some_iff.mp hk).1
 have hm:k∈ofN its y:=List.mem_filter.mpr ⟨List.mem_range.mpr hkl,by
  show isN its y k=true
  unfold isN
  rw [hk]
  show decide (y∈t.names)=true
  simpa using hyt⟩
 cases hq:ofN its y with
 | nil=>rw [hq] at hm;cases hm
 | cons k0 r=>
  have h0:k0∈ofN its y:=by rw [hq];exact .head _
  have h1:=(List.mem_filter.mp h0).2
  unfold isN at h1
  cases hi:its[k0]? with
  | none=>rw [hi] at h1;cases h1
  | some im=>
   rw [hi] at h1
   cases im with
   | opn o=>cases h1
   | sig u=>exact ⟨k0,u,rfl,hi,by
     have h1:decide (y∈u.names)=true:=h1
     simpa using h1⟩
end Mine
end
section
namespace Mine
variable {w:World} {env:Env} {n:Nat} {N:List Addr} {ρ:Rho} {ad:Addr} {cs:List D} {B B' B'':Nat} {its:List Im}
theorem Op.monoD {G:Fz} {s:Shared} {t:Sem Value} {P P':D→Prop} (h:Op w n N G s t (KD w P)) (k:∀ d,P d→P' d):Op w n N G s t (KD w P'):=
 fun A Q E a kk=>h A Q E a fun v G' s' y ⟨d,r,p⟩=>kk v G' s' y ⟨d,r,k d p⟩
theorem Ev.to {e:PySem.Expr} {P P':D→Prop} (h:Ev w env n N ρ e P) (k:∀ d,P d→P' d):Ev w env n N ρ e P':=h.mono fun _ _ _ _ _ ⟨d,r,p⟩=>⟨d,r,k d p⟩
theorem EvL.eqD {e:PySem.Expr} {l:List D} (h:EvL w env n N ρ e (fun l'=>l'=l)):Ev w env n N ρ e (fun d=>d=.lst l):=h.ev.to fun d ⟨l',e,p⟩=>by rw [e,p]
theorem tr_le {l r pos} {P1 P2:D→Prop} {P:Bool→Prop} (hl:Ev w env n N ρ l P1) (hr:Ev w env n N ρ r P2) (h:∀ d1 d2,P1 d1→P2 d2→E2 .int .int d1 d2 fun x y=>P (decide (x≤y))):Tr w env n N ρ (.Compare l [.LtE] [r] pos) P:=
 tr_cmp (hm:=bim_of (by decide) (by decide)) hl hr KD.step fun G s v1 v2 i _ ⟨d1,r1,p1⟩ ⟨d2,r2,p2⟩=>by
  obtain ⟨x,y,rfl,rfl,hp⟩:=h _ _ p1 p2
  obtain ⟨_,rfl⟩:=r1.inv;obtain ⟨_,rfl⟩:=r2.inv
  exact .cmp i hp fun A Q E _ q=>PyProof.Rows.le_int q
noncomputable def sgL (t:Sg):List D:=[.str "sig",.int t.spot,.tup (t.names.map .str),.bool t.abs,.str "",.str t.parent,.tup (t.sups.map .str),.tup (t.decls.map encDc),.tup []]
theorem put_set {k p:Nat} {t t':Sg} {x:D} (hk:its[k]? = some (.sig t)) (h:(sgL t).take p++[x]++(sgL t).drop (p+1)=sgL t'):putD (its.map encI) (sgL t) k p x=(its.set k (.sig t')).map encI:=by
 have hl:=(List.getElem?_eq_some_iff.mp hk).1
 unfold putD
 rw [h,List.set_eq_take_append_cons_drop,if_pos hl,List.map_append,List.map_cons,List.map_take,List.map_drop]
 show _++[encI (.sig t')]++_=_
 simp
theorem c_put' {k p:Nat} {t t':Sg} {x:D} (hl:its.length≤1000) (hk:its[k]? = some (.sig t)) (hp:p < 9) (h:(sgL t).take p++[x]++(sgL t).drop (p+1)=sgL t') {G:Fz} {s:Shared} {vs:List Value} (i:Inn G s.heap) (b:Bs w G) (r:RepL w.params G vs [.lst (its.map encI),.int (k:Int),.int (p:Int),x]) :
  Op w (n+1) [] G s (call (.ref 326) vs) (KD w (fun d=>d=.lst ((its.set k (.sig t')).map encI))):=
 Op.monoD (c_put (l:=its.map encI) (m:=sgL t) (k:=k) (p:=p) (x:=x) (by simpa using hl) (by rw [List.getElem?_map,hk];rfl) (by show (9:Nat)≤1000;decide) hp i b r) fun d e=>by rw [e,put_set hk h]
theorem ev_put {e1 e2 e3 e4:PySem.Expr} {np pos:Pos} {k p:Nat} {t t':Sg} {x:D} (hl:its.length≤1000) (hk:its[k]? = some (.sig t)) (hp:p < 9) (h:(sgL t).take p++[x]++(sgL t).drop (p+1)=sgL t') (hf:EvV w env (n+1) [] ρ (.Name "_law_put" np) (.ref 326))
  (h1:Ev w env (n+1) [] ρ e1 (fun d=>d=.lst (its.map encI))) (h2:Ev w env (n+1) [] ρ e2 (fun d=>d=.int (k:Int))) (h3:Ev w env (n+1) [] ρ e3 (fun d=>d=.int (p:Int))) (h4:Ev w env (n+1) [] ρ e4 (fun d=>d=x)) (ht:backTo pos (starEach [e1,e2,e3,e4] env)=ml env [e1,e2,e3,e4]:=by rfl) :
  Ev w env (n+1) [] ρ (.Call (.Name "_law_put" np) [e1,e2,e3,e4] [] pos) (fun d=>d=.lst ((its.set k (.sig t')).map encI)):=
 evk_call (PA:=fun l=>l=[.lst (its.map encI),.int (k:Int),.int (p:Int),x]) ff_put hf (mq h1 (mq h2 (mq h3 (mq h4 mq_nil)))) ht ⟨_,_,rfl⟩ (fun _ _ _ _ _ x _=>x) (fun G s vs ds i b r q=>by subst q;exact c_put' hl hk hp h i b r)
structure OfN (its:List Im) (y:Str) (k:Nat) (t:Sg):Prop where
 at_:its[k]? = some (.sig t)
 nm:y∈t.names
theorem c_ofn (hl:its.length≤1000) (hs:∀ t∈sigsOf its,∀ z∈t.names,PyData.strOk z=true) {y:Str} (hy:y∈keys (rowsS (sigsOf its))) {G:Fz} {s:Shared} {vs:List Value} (i:Inn G s.heap) (b:Bs w G) (r:RepL w.params G vs [.lst (its.map encI),.str y]) :
  Op w (n+1) [] G s (call (.ref 331) vs) (KD w (fun d=>∃ k t,OfN its y k t∧d=.int ((k:Nat):Int))):=by
 obtain ⟨k,t,h1,h2,h3⟩:=ofN_some hy
 obtain ⟨t',ht',hy'⟩:=mem_keys.mp hy
 exact Op.monoD (c_ofname hl (hs t' ht' y hy') hs h1 i b r) fun d e=>⟨k,t,⟨h2,h3⟩,e⟩
theorem ev_ofn {e1 e2:PySem.Expr} {np pos:Pos} (hl:its.length≤1000) (hs:∀ t∈sigsOf its,∀ z∈t.names,PyData.strOk z=true) {y:Str} (hy:y∈keys (rowsS (sigsOf its))) (hf:EvV w env (n+1) [] ρ (.Name "_law_of_name" np) (.ref 331))
  (h1:Ev w env (n+1) [] ρ e1 (fun d=>d=.lst (its.map encI))) (h2:Ev w env (n+1) [] ρ e2 (fun d=>d=.str y)) (ht:backTo pos (starEach [e1,e2] env)=ml env [e1,e2]:=by rfl) :
  Ev w env (n+1) [] ρ (.Call (.Name "_law_of_name" np) [e1,e2] [] pos) (fun d=>∃ k t,OfN its y k t∧d=.int ((k:Nat):Int)):=
 evk_call (PA:=fun l=>l=[.lst (its.map encI),.str y]) ff_ofname hf (mq h1 (mq h2 mq_nil)) ht ⟨_,_,rfl⟩ (fun _ _ _ _ _ x _=>x) (fun G s vs ds i b r q=>by subst q;exact c_ofn hl hs hy i b r)
theorem t_ofn {e1 e2:PySem.Expr} {np pos:Pos} {P:Str→Prop} (hl:its.length≤1000) (hs:∀ t∈sigsOf its,∀ z∈t.names,PyData.strOk z=true) (hf:EvV w env (n+1) [] (T w ad cs B ρ) (.Name "_law_of_name" np) (.ref 331))
  (h1:Ev w env (n+1) [] (T w ad cs B ρ) e1 (fun d=>d=.lst (its.map encI))) (h2:EvT w env (n+1) ad cs ρ B B' e2 (fun d=>∃ y,y∈keys (rowsS (sigsOf its))∧P y∧d=.str y)) (ht:backTo pos (starEach [e1,e2] env)=ml env [e1,e2]:=by rfl) :
  EvT w env (n+1) ad cs ρ B B' (.Call (.Name "_law_of_name" np) [e1,e2] [] pos) (fun d=>∃ k t y,P y∧OfN its y k t∧d=.int ((k:Nat):Int)):=
 t_call (PA:=fun l=>∃ y,y∈keys (rowsS (sigsOf its))∧P y∧l=[.lst (its.map encI),.str y]) ff_ofname hf (trsT_cons (P1:=fun d=>d=.lst (its.map encI)) (P2:=fun l=>∃ y,y∈keys (rowsS (sigsOf its))∧P y∧l=[.str y]) h1 (trsT_here h2 mq_nil (by rintro _ _ ⟨y,a1,a2,rfl⟩ rfl;exact ⟨y,a1,a2,rfl⟩)) (by rintro _ _ rfl ⟨y,a1,a2,rfl⟩;exact ⟨y,a1,a2,rfl⟩)) ht ⟨_,_,rfl⟩
  (fun G s vs ds i b r ⟨y,a1,a2,q⟩=>by subst q;exact Op.monoD (c_ofn hl hs a1 i b r) fun d ⟨k,t,g1,g2⟩=>⟨k,t,y,a2,g1,g2⟩)
theorem t_pick {x:Str} {p1 p2 p3 p4 p5 p6 p7:Pos} {l:List D} {P:D→Prop} (hx:(some x,dat w.params (.lst l))∈ρ) (hT:(some ("tape" : Str),dat w.params (.adr ad))∈ρ) (hk:env.scope.kind=.function) (hf:EvV w env (n+1) [] (T w ad cs B ρ) (.Name "_law_draw" p1) (.ref 273)) (hln:EvV w env (n+1) [] (T w ad cs B ρ) (.Name "len" p5) (.builtin "len")) (hC:Cs cs) (hB:B≤100000)
  (h0:0 < l.length) (hl:l.length≤1000) (hP:∀ d∈l,P d) (hd:(x==("__debug__" : Str))=false:=by decide) (hc:(x==("__classdict__" : Str))=false:=by decide)
  (ht:backTo p3 (starEach [.Name "tape" p2,.Call (.Name "len" p5) [.Name x p6] [] p7] env)=[(false,eval (.Name "tape" p2) env),(false,eval (.Call (.Name "len" p5) [.Name x p6] [] p7) env)]:=by rfl) (ht2:backTo p7 (starEach [.Name x p6] env)=[(false,eval (.Name x p6) env)]:=by rfl) :
  EvT w env (n+1) ad cs ρ B (B+1) (.Subscript (.Name x p4) (.Call (.Name "_law_draw" p1) [.Name "tape" p2,.Call (.Name "len" p5) [.Name x p6] [] p7] [] p3) pos) P:=
 t_sub_lst (P1:=fun d=>d=.lst l) (P2:=fun d=>∃ r:Nat,r < l.length∧d=.int r) (ev_name (.tail _ hx) hk hd hc)
  (t_draw hT hk hf hC hB (ev_lenS (P1:=fun l'=>l'=l) hln (evs_lst (ev_name (.tail _ hx) hk hd hc) fun d h=>⟨_,h,rfl⟩) ht2 (by rintro _ rfl;exact ⟨by exact q1 ‹_›,_,h0,rfl,fun r hr=>⟨r,hr,rfl⟩⟩)) ht)
  (by rintro _ _ rfl ⟨r,hr,rfl⟩;exact ⟨l,_,l[r],rfl,rfl,by exact q1 ‹_›,by exact qd,by simp [hr],hP _ (List.getElem_mem hr)⟩)
theorem last_pick {t:Sg} {k:Nat} (h:IsSig k t):∃ x∈t.names,pick (t.names.map D.str) (some (-1)) none=[.str x]:=by
 rcases h.names with e | e<;>rw [e]
 ·exact ⟨_,.head _,rfl⟩
 ·exact ⟨_,mh1,rfl⟩
theorem eqv_unit (l:List Str):PyData.eqv (toPy (.tup (l.map .str))) (toPy (.tup []))=l.isEmpty:=by
 show PyData.eqvAll _ _=_
 rw [toPys,eqv_nil]
 cases l<;>rfl
theorem tr_unit {l r pos} {ss:List Str} (h:∀ y∈ss,PyData.strOk y=true) (hl:Ev w env n [] ρ l (fun d=>d=.tup (ss.map .str))) (hr:Ev w env n [] ρ r (fun d=>d=.tup [])):Tr w env n [] ρ (.Compare l [.Eq] [r] pos) (fun b=>b=ss.isEmpty):=
 tr_eqR (P1:=fun d=>d=.tup (ss.map .str)) (P2:=fun d=>d=.tup []) (Ev.r 1 hl (fun d h'=>by subst h';exact ⟨strs_flat h 0,rfl⟩)) (Ev.r 1 hr (fun d h'=>by subst h';exact ⟨rfl,rfl⟩)) (by rintro _ _ rfl rfl;exact eqv_unit ss)
theorem ev_cell {x:Str} {e:PySem.Expr} {kk p1 p2 p3 p4} {k p:Nat} {t:Sg} {d:D} (hx:(some x,dat w.params (.lst (its.map encI)))∈ρ) (hs:env.scope.kind=.function) (hl:its.length≤1000) (hk:its[k]? = some (.sig t)) (he:Ev w env n [] ρ e (fun d=>d=.int (k:Int))) (hp:(sgL t)[p]? = some d)
  (hns:∀ a b c,e≠.Slice a b none c:=by intro _ _ _ h;cases h) (hd:(x==("__debug__" : Str))=false:=by decide) (hc:(x==("__classdict__" : Str))=false:=by decide):Ev w env n [] ρ (.Subscript (.Subscript (.Name x p1) e p2) (.Constant (.int (p:Int)) kk p3) p4) (fun d'=>d'=d):=
 pu_tup (l:=sgL t) (ev_sub_lst (P1:=fun d=>d=.lst (its.map encI)) (P2:=fun d=>d=.int (k:Int)) (ev_name hx hs hd hc) he (by rintro _ _ rfl rfl;exact ⟨_,_,encI (.sig t),rfl,rfl,by simp;exact q1 ‹_›,by exact qd,by simp [hk],rfl⟩) hns) (by show (9:Nat)≤1000000;decide) hp
end Mine
end
section
namespace Mine
variable {w:World} {env:Env} {n:Nat} {N:List Addr} {ρ:Rho} {ad:Addr} {cs:List D} {B B' B'':Nat} {its:List Im}
theorem evl_labove {e1 e2:PySem.Expr} {np pos:Pos} {rows:List (Str×Sg)} {y:Str} {t:Sg} (hc:Clo rows) (hlt:rows.length < 64) (ht:look rows y=some t) (hf:EvV w env (n+2) [] ρ (.Name "_law_above" np) (.ref 309))
  (h1:Ev w env (n+2) [] ρ e1 (fun d=>d=.dct (entL rows))) (h2:Ev w env (n+2) [] ρ e2 (fun d=>d=.str y)) (hb:backTo pos (starEach [e1,e2] env)=ml env [e1,e2]:=by rfl) :
  EvL w env (n+2) [] ρ (.Call (.Name "_law_above" np) [e1,e2] [] pos) (fun l=>∃ r,l=r.map .str∧Ab64 rows t r):=
 (evk_call (K:=KL w (fun l=>∃ r:List Str,l=r.map .str∧sortedS r=true∧r.Nodup∧r.length < 64∧(∀ u∈r,PyData.strOk u=true)∧∀ o,o∈r↔Reach (upOf rows) t.up o)) (PA:=fun l=>l=[.dct (entL rows),.str y]) ff_labove hf (mq h1 (mq h2 mq_nil)) hb ⟨_,_,rfl⟩ (fun _ _ _ _ _ x h=>x.early h) (fun G s vs ds i b r p=>by subst p;exact c_labove hc hlt ht i b r)).mono
  fun _ _ _ _ _ ⟨a,vs,m,l,q1,q2,q3,q4,q5,r,h1,h2,h3,h4,h5,h6⟩=>⟨a,vs,m,l,q1,q2,q3,q4,q5,r,h1,h2,h3,h5,h6⟩
noncomputable def BentD (d:D):Prop:=∃ its' z,Tame its'∧Refused its' z∧d=.tup [.lst (its'.map encI),.int z]
noncomputable def isBelow (rows:List (Str×Sg)) (y:Str):Bool:=@decide (y = "A"∨Above rows y "A") (Classical.propDecidable _)
theorem isBelow_of {rows:List (Str×Sg)} {y:Str} {t:Sg} {r:List Str} (ht:look rows y=some t) (h:Ab64 rows t r):decide (("A" : Str)∈r++[y])=isBelow rows y:=by
 unfold isBelow
 rw [decide_eq_decide,List.mem_append,h.mem]
 have:upOf rows y=t.up:=by unfold upOf;rw [ht]
 unfold Above
 rw [this]
 constructor
 ·rintro (h | h)
  ·exact .inr h
  ·exact .inl (List.mem_singleton.mp h).symm
 ·rintro (h | h)
  ·exact .inr (by rw [h];simp)
  ·exact .inl h
theorem isBelow_spec {rows:List (Str×Sg)} {y:Str}:isBelow rows y=true↔(y = "A"∨Above rows y "A"):=by unfold isBelow;exact @decide_eq_true_iff _ (Classical.propDecidable _)
noncomputable def belowB (rows:List (Str×Sg)) (y:Str):Bool:=match look rows y with
 | some t=>t.sups.isEmpty&&isBelow rows y
 | none=>false
noncomputable def pB (rows:List (Str×Sg)):D→Bool
 | .str y=>belowB rows y
 | _=>false
theorem filter_pB (rows:List (Str×Sg)) (l:List Str):(l.map D.str).filter (pB rows)=(l.filter (belowB rows)).map D.str:=by
 rw [List.filter_map];congr 1
noncomputable def BelowQ (rows:List (Str×Sg)) (y:Str):Prop:=∃ t,look rows y=some t∧t.sups=[]∧(y = "A"∨Above rows y "A")
theorem belowB_spec {rows:List (Str×Sg)} {y:Str} (h:belowB rows y=true):BelowQ rows y:=by
 unfold belowB at h
 cases hl:look rows y with
 | none=>rw [hl] at h;cases h
 | some t=>
  rw [hl] at h
  obtain ⟨h1,h2⟩:=Bool.and_eq_true_iff.mp h
  exact ⟨t,hl,List.isEmpty_iff.mp h1,isBelow_spec.mp h2⟩
noncomputable def isSI:Im→Bool
 | .sig t=>t.sups.isEmpty
 | .opn _=>false
noncomputable def isS (its:List Im) (j:Nat):Bool:=match its[j]? with
 | some im=>isSI im
 | none=>false
noncomputable def pS (its:List Im):D→Bool
 | .int z=>isS its z.toNat
 | _=>false
theorem filter_pS (its:List Im) (m:Nat):((List.range m).map fun i=>D.int ((i:Nat):Int)).filter (pS its)=intsD ((List.range m).filter (isS its)):=by
 rw [List.filter_map];congr 1
theorem isS_spec {its:List Im} {j:Nat} (h:isS its j=true):∃ t,its[j]? = some (Im.sig t)∧t.sups=[]:=by
 unfold isS at h
 cases hl:its[j]? with
 | none=>rw [hl] at h;cases h
 | some im=>
  rw [hl] at h
  cases im with
  | sig t=>exact ⟨t,rfl,List.isEmpty_iff.mp h⟩
  | opn o=>cases h
theorem tr_below {e1 e2 e3:PySem.Expr} {p0 np p1 p2 p3 p4:Pos} {kc} {rows:List (Str×Sg)} {y:Str} {t:Sg} (hc:Clo rows) (hlt:rows.length < 64) (hy:PyData.strOk y=true) (ht:look rows y=some t) (hf:EvV w env (n+2) [] ρ (.Name "_law_above" np) (.ref 309))
  (h1:Ev w env (n+2) [] ρ e1 (fun d=>d=.dct (entL rows))) (h2:Ev w env (n+2) [] ρ e2 (fun d=>d=.str y)) (h3:Ev w env (n+2) [] ρ e3 (fun d=>d=.str y)) (hb:backTo p1 (starEach [e1,e2] env)=ml env [e1,e2]:=by rfl) (hb2:backTo p2 (starEach [e3] env)=ml env [e3]:=by rfl) :
  Tr w env (n+2) [] ρ (.Compare (.Constant (.str "A") kc p0) [.In] [.BinOp (.Call (.Name "_law_above" np) [e1,e2] [] p1) .Add (.List [e3] p2) p3] p4) (fun b=>b=isBelow rows y):=
 tr_in (P1:=fun d=>d=.str "A") (P2:=fun ss=>∃ r,Ab64 rows t r∧ss=r++[y]) ev_str
  (EvS.ss (EvL.evs (evl_add (P1:=fun l=>∃ r,l=r.map .str∧Ab64 rows t r∧r.length < 64) (P2:=fun l=>l=[.str y]) (P:=fun l=>∃ r,l=(r++[y]).map .str∧Ab64 rows t r)
   ((EvL.evs (evl_labove hc hlt ht hf h1 h2 hb)).mono fun _ _ _ _ _ ⟨a,vs,m,l,q1,q2,q3,r,h1,h2⟩=>⟨a,vs,m,l,q1,q2,q3,r,h1,h2,by
    have hsub:∀ o∈r,o∈keys rows:=fun o ho=>Reach.key hc ht ((h2.mem o).mp ho)
    have:=h2.nd.length_le_of_subset (l₂:=keys rows) hsub
    simp only [keys,List.length_map] at this;omega⟩) (EvL.evs (evl_listQ (mq h3 mq_nil) hb2))
   (by rintro _ _ ⟨r,rfl,h,hl⟩ rfl;exact ⟨by simp;exact q6 ‹_›,r,by simp,h⟩)))
   fun l ⟨r,e,h⟩=>⟨r++[y],e,(fun u hu=>(List.mem_append.mp hu).elim (h.ok u) fun hu=>by rw [List.mem_singleton.mp hu];exact hy),r,h,rfl⟩)
  (by rintro _ _ rfl ⟨r,h,rfl⟩;exact ⟨"A",rfl,by decide +kernel,isBelow_of ht h⟩) (by rfl)
noncomputable def envBs (L:Addr):Env:=callEnvC (lawFd 21 "_law_bent_sigs" 335) L 336
noncomputable def bsR (w:World) (ad:Addr) (its:List Im) (way:Nat) (tl:Rho):Rho:=
 (some ("tape" : Str),dat w.params (.adr ad))::(some ("items" : Str),dat w.params (.lst (its.map encI)))::(some ("way" : Str),dat w.params (.int (way:Int)))::(some ("names" : Str),dat w.params (.lst ((keys (rowsS (sigsOf its))).map .str)))::tl
noncomputable def kR (w:World) (x:Str) (k:Nat):Option Str×Kd:=(some x,dat w.params (.int (k:Int)))
structure Md (its:List Im):Prop where
 m:IsModel its
 len:its.length≤1000
 ok:∀ t∈sigsOf its,∀ z∈t.names,PyData.strOk z=true
 nl:∀ t∈sigsOf its,t.names.length≤900
 rl:(rowsS (sigsOf its)).length < 64
 kA:("A" : Str)∈keys (rowsS (sigsOf its))
 kP:("P" : Str)∈keys (rowsS (sigsOf its))
 fine:Fine (rowsS (sigsOf its))
 clo:Clo (rowsS (sigsOf its))
theorem IsModel.md (hm:IsModel its):Md its where
 m:=hm
 len:=by rw [hm.len];decide
 ok:=fun t ht z hz=>((hm.tame.sigs t ht).names.2 z hz).1
 nl:=fun t ht=>by have:=(hm.tame.sigs t ht).names.1;exact q1 ‹_›
 rl:=by
  have h1:=rowsS_len (l:=sigsOf its) fun t ht=>(hm.tame.sigs t ht).names.1
  have h2:=sigs_len its
  have h3:=hm.len
  omega
 kA:=hm.four.1.key (k:=0) (by decide)
 kP:=hm.four.1.key (k:=3) (by exact Nat.le_refl _)
 fine:=hm.tame.fine hm.taken.sig
 clo:=hm.tame.clo hm.taken.row
theorem Md.klen (h:Md its):0 < ((keys (rowsS (sigsOf its))).map D.str).length∧((keys (rowsS (sigsOf its))).map D.str).length≤1000:=by
 have h1:=h.rl
 have h2:=List.length_pos_of_mem h.kA
 simp only [List.length_map,keys] at h2 ⊢
 omega
theorem strk {l:List Str} {d:D} (h:d∈l.map D.str):∃ y,y∈l∧True∧d=.str y:=by
 obtain ⟨y,hy,e⟩:=List.mem_map.mp h
 exact ⟨y,hy,trivial,e.symm⟩
set_option maxHeartbeats 2000000 in
theorem o_bsigs (hC:Cs cs) (hB:B≤1000) (hm:Md its):OpT w (n+4) ad cs B (B+2) 336 (fun ds=>∃ way:Nat,way < 5∧ds=[.adr ad,.lst (its.map encI),.int (way:Int),.lst ((keys (rowsS (sigsOf its))).map .str)]) (fun _ d=>BentD d):=by
 refine op_tp ff_bsigs ["tape","items","way","names"] (bind4 fun _ _ _ _=>rfl) (by decide) (by decide +kernel) (fun ds ⟨way,_,e⟩=>by subst e;rfl) fun L ds A G s s₁ Q E ⟨way,hw,e⟩ a c kk=>?_
 subst e
 change St w (envBs L) _ _ _ _ _ _ at c
 change wpAny _ _ (execs _ (envBs L)) _ _ _
 have hdr:∀ {ρ:Rho} {pos},EvV w (envBs L) (n+3) [] ρ (.Name "_law_draw" pos) (.ref 273):=fun {ρ pos}=>evv_glob rfl (by rfl) rfl rfl
 have hln:∀ {ρ:Rho} {pos},EvV w (envBs L) (n+3) [] ρ (.Name "len" pos) (.builtin "len"):=fun {ρ pos}=>evv_blt rfl (by rfl) rfl rfl rfl rfl
 have hof:∀ {ρ:Rho} {pos},EvV w (envBs L) (n+3) [] ρ (.Name "_law_of_name" pos) (.ref 331):=fun {ρ pos}=>evv_glob rfl (by rfl) rfl rfl
 have hpt:∀ {ρ:Rho} {pos},EvV w (envBs L) (n+3) [] ρ (.Name "_law_put" pos) (.ref 326):=fun {ρ pos}=>evv_glob rfl (by rfl) rfl rfl
 have fin:∀ {ρ:Rho} {v:Value} {G':Fz} {s':Shared},St w (envBs L) G s [ad] (T w ad cs (B+2) ρ) G' s'→KD w BentD v G' s'→Q (.ret v) s':=fun {ρ v G' s'} z q=>kk (.ret v) G' s' z.step (z.vars _ (.head _)) q
 have c':St w (envBs L) G s [ad] (T w ad cs B (bsR w ad its way [])) G s₁:=c
 have kl:=hm.klen
 refine st_asgT (B':=B+1) (P:=fun d=>∃ k t y,True∧OfN its y k t∧d=.int ((k:Nat):Int)) a c' (t_ofn hm.len hm.ok hof (ev_name (d:=.lst (its.map encI)) mh2 rfl) (t_pick mh3 (.head _) rfl hdr hln hC (by exact q1 ‹_›) kl.1 kl.2 (fun d hd=>strk hd)))
  (ρ':=fun d=>bsR w ad its way [(some ("k" : Str),dat w.params d)]) (fun d=>.skip (by decide) (.skip (by decide) (.skip (by decide) (.skip (by decide) .new)))) rfl (.inl rfl) ?_
 rintro _ G1 s1 ⟨k,t,y0,_,hO,rfl⟩ c1
 have c1:St w (envBs L) G s [ad] (T w ad cs (B+1) (bsR w ad its way [kR w "k" k])) G1 s1:=c1
 have hat:=hm.m.at_ hO.at_
 have hkE:∀ {ρ':Rho} {pos},kR w "k" k∈ρ'→Ev w (envBs L) (n+3) [] ρ' (.Name "k" pos) (fun d=>d=.int (k:Int)):=fun h=>ev_name (d:=.int (k:Int)) h rfl
 have itE:∀ {ρ':Rho} {pos} {b:Nat},Ev w (envBs L) (n+3) [] (T w ad cs b (bsR w ad its way ρ')) (.Name "items" pos) (fun d=>d=.lst (its.map encI)):=fun {ρ' pos b}=>ev_name (d:=.lst (its.map encI)) mh2 rfl
 have wyE:∀ {ρ':Rho} {pos} {b:Nat},Ev w (envBs L) (n+3) [] (T w ad cs b (bsR w ad its way ρ')) (.Name "way" pos) (fun d=>d=.int (way:Int)):=fun {ρ' pos b}=>ev_name (d:=.int (way:Int)) mh3 rfl
 have wyT:∀ {ρ':Rho} {b:Nat} {i:Nat} {kk p1 p2 p3},Tr w (envBs L) (n+3) [] (T w ad cs b (bsR w ad its way ρ')) (.Compare (.Name "way" p1) [.Eq] [.Constant (.int (i:Int)) kk p2] p3) (fun b=>b=decide (way=i)):=fun {ρ' b i kk p1 p2 p3}=>tr_eq_int wyE ev_int (by rintro _ _ rfl rfl;refine ⟨_,_,rfl,rfl,?_⟩;rw [Bool.eq_iff_iff];simp;exact qf)
 have cellE:∀ {ρ':Rho} {b:Nat} {p:Nat} {d:D} {kk p1 p2 p3 p4 p5},kR w "k" k∈ρ'→(sgL t)[p]? = some d→Ev w (envBs L) (n+3) [] (T w ad cs b (bsR w ad its way ρ')) (.Subscript (.Subscript (.Name "items" p1) (.Name "k" p5) p2) (.Constant (.int (p:Int)) kk p3) p4) (fun d'=>d'=d):=fun h hp=>ev_cell mh2 rfl hm.len hO.at_ (hkE (.tail _ (.tail _ (.tail _ (.tail _ (.tail _ h)))))) hp
 refine st_ifD a noN c1 (p:=way=0) (wyT (i:=0)) (fun G2 s2 h0 c2=>?_) (fun G2 s2 h0 c2=>?_)
 ·
  refine st_asgT (B':=B+2) (P:=fun d=>∃ r:Nat,r < 5∧d=.int r) a c2 (t_draw (.head _) rfl hdr hC (by exact q7 ‹_›) (ev_int.to fun d e=>⟨5,by decide,e,fun r hr=>⟨r,hr,rfl⟩⟩))
   (ρ':=fun d=>bsR w ad its way [kR w "k" k,(some ("at" : Str),dat w.params d)]) (fun d=>.skip (by decide) (.skip (by decide) (.skip (by decide) (.skip (by decide) (.skip (by decide) .new))))) rfl (.inl rfl) ?_
  rintro _ G3 s3 ⟨r,hr,rfl⟩ c3
  have ht:t∈sigsOf its:=mem_sigsOf (List.mem_of_getElem? hO.at_)
  obtain ⟨i,hi,hs⟩:=hm.m.four.1.sig t ht
  obtain ⟨x,hx,hpk⟩:=last_pick hs
  have hlen:=hm.m.len
  have atE:∀ {ρ':Rho} {pos},(some ("at" : Str),dat w.params (.int (r:Int)))∈ρ'→Ev w (envBs L) (n+3) [] ρ' (.Name "at" pos) (fun d=>d=.int (r:Int)):=fun h=>ev_name h rfl
  refine st_asg (P:=fun d=>d=encI (.sig (lateS x))) a noN c3 (ev_tupQ (mq ev_str (mq ev_int (mq (ev_sliceT (P1:=fun d=>d=.tup (t.names.map .str)) (P2:=fun o=>o=some (-1)) (P3:=fun o=>o=none) (P:=fun d=>d=.tup [.str x]) (cellE (p:=2) (.head _) rfl) (.some (ev_neg1.to fun d e=>⟨_,e,rfl⟩)) (.none rfl) (by rintro _ _ _ rfl rfl rfl;exact ⟨_,rfl,by have:=hat.tame.names.1;simp;exact q1 ‹_›,by rw [hpk]⟩)) (mq ev_bool (mq ev_str (mq ev_str (mq (ev_tupQ mq_nil) (mq (ev_tupQ mq_nil) (mq (ev_tupQ mq_nil) mq_nil))))))))))
   (ρ':=fun d=>T w ad cs (B+2) (bsR w ad its way [kR w "k" k,(some ("at" : Str),dat w.params (.int (r:Int))),(some ("late" : Str),dat w.params d)])) (fun d=>.skip (fun h=>nomatch h) (.skip (by decide) (.skip (by decide) (.skip (by decide) (.skip (by decide) (.skip (by decide) (.skip (by decide) .new))))))) rfl (.inl rfl) ?_
  rintro _ G4 s4 rfl c4
  have lateE:∀ {ρ':Rho} {pos},(some ("late" : Str),dat w.params (encI (.sig (lateS x))))∈ρ'→Ev w (envBs L) (n+3) [] ρ' (.Name "late" pos) (fun d=>d=encI (.sig (lateS x))):=fun h=>ev_name h rfl
  have m4:∀ {q0 q1 q2 q3 q4 q5:Option Str×Kd} {r:Rho},q5∈q0::q1::q2::q3::q4::q5::r:=mh5
  refine st_retT (B':=B+2) (P:=BentD) a c4 (t_pure ((ev_tupQ (mq (EvL.eqD (evl_add (P1:=fun l=>l=(its.map encI).take r++[encI (.sig (lateS x))]) (P2:=fun l=>l=(its.map encI).drop r) (P:=fun l=>l=(its.take r++[Im.sig (lateS x)]++its.drop r).map encI)
    (EvL.evs (evl_add (P1:=fun l=>l=(its.map encI).take r) (P2:=fun l=>l=[encI (.sig (lateS x))]) (EvL.evs (evl_sliceS (P1:=fun l=>l=its.map encI) (P2:=fun o=>o=none) (P3:=fun o=>o=some (r:Int)) (evs_lst itE fun d h=>⟨_,h,rfl⟩) (.none rfl) (.some ((atE (.tail _ m4)).to fun d e=>⟨_,e,rfl⟩)) (by rintro _ _ _ rfl rfl rfl;exact ⟨by simp;exact q5 ‹_›,pick_hi (by simp;omega)⟩)))
     (EvL.evs (evl_listQ (mq (lateE (.tail _ (.tail _ m4))) mq_nil))) (by rintro _ _ rfl rfl;exact ⟨by simp;omega,rfl⟩)))
    (EvL.evs (evl_sliceS (P1:=fun l=>l=its.map encI) (P2:=fun o=>o=some (r:Int)) (P3:=fun o=>o=none) (evs_lst itE fun d h=>⟨_,h,rfl⟩) (.some ((atE (.tail _ m4)).to fun d e=>⟨_,e,rfl⟩)) (.none rfl) (by rintro _ _ _ rfl rfl rfl;exact ⟨by simp;exact q5 ‹_›,pick_lo (by simp;omega)⟩)))
    (by rintro _ _ rfl rfl;exact ⟨by simp;omega,by simp [List.map_take,List.map_drop]⟩)))
   (mq (ev_if (P1:=fun b=>b=decide (r≤k)) (P:=fun d=>d=.int (if r≤k then t.spot else 500)) (tr_le (atE (.tail _ m4)) (hkE m4) (by rintro _ _ rfl rfl;refine ⟨_,_,rfl,rfl,?_⟩;rw [Bool.eq_iff_iff];simp)) (fun h=>(cellE (p:=1) (d:=.int t.spot) (.head _) rfl).to fun d e=>by rw [e,if_pos (by simpa using h.symm)]) (fun h=>ev_int.to fun d e=>by rw [e,if_neg (by simpa using h.symm)])) mq_nil))).to fun d e=>⟨_,_,hm.m.tame.ins (by exact q5 ‹_›) (hat.tame.names.2 x hx) r,way0 hm.m hO.at_ (by omega) hx,e⟩) (by exact Nat.le_refl _)) fun v G' s' z q=>fin z q
 refine st_nil ?_
 have htw:∀ {ρ':Rho} {b:Nat} {kk p1 p2 p3 p4 p5 p6 p7},kR w "k" k∈ρ'→Tr w (envBs L) (n+3) [] (T w ad cs b (bsR w ad its way ρ')) (.Compare (.Subscript (.Subscript (.Name "items" p1) (.Name "k" p5) p2) (.Constant (.int (6:Nat)) kk p3) p4) [.Eq] [.Tuple [] 0 p6] p7) (fun b=>b=t.sups.isEmpty):=fun h=>tr_unit (ss:=t.sups) (fun y hy=>(hat.tame.up y (up_of_sup hy)).1) (cellE (p:=6) h rfl) (ev_tupQ mq_nil)
 refine st_if a noN c2 (P:=fun b=>b=(decide (way=1)&&t.sups.isEmpty)) (tr_and' (wyT (i:=1)) (fun _=>htw (.head _)) (by rintro a b rfl h;cases h1:decide (way=1) with | true=>rw [h h1] | false=>rfl)) ?_
 rintro _ G3 s3 rfl c3
 by_cases h1:way=1
 ·by_cases hs:t.sups=[]
  ·rw [if_pos (by simp [h1,hs])]
   exact st_retT (B':=B+2) (P:=BentD) a c3 (t_pure ((ev_tupQ (mq (ev_put (t':={t with parent:="Z"}) (p:=5) hm.len hO.at_ (by decide) rfl hpt itE (hkE mh5) ev_int ev_str) (mq (cellE (p:=1) (d:=.int t.spot) (.head _) rfl) mq_nil))).to fun d e=>⟨_,_,hm.m.tame.set hO.at_ (hat.tame.par okS_Z),way1a hm.m hO.at_ hs,e⟩) (by exact q9)) fun v G' s' z q=>fin z q
  ·rw [if_neg (by simp [h1,hs])]
   refine st_nil ?_
   refine st_if a noN c3 (P:=fun b=>b=decide (way=1)) (wyT (i:=1)) ?_
   rintro _ G4 s4 rfl c4
   rw [if_pos (by simpa using h1)]
   exact st_retT (B':=B+2) (P:=BentD) a c4 (t_pure ((ev_tupQ (mq (ev_put (t':={t with sups:=t.sups++[("Z" : Str)]}) (p:=6) (x:=.tup ((t.sups++[("Z" : Str)]).map .str)) hm.len hO.at_ (by decide) rfl hpt itE (hkE mh5) ev_int (ev_add_tup (P1:=fun d=>d=.tup (t.sups.map .str)) (P2:=fun d=>d=.tup [.str "Z"]) (cellE (p:=6) (.head _) rfl) (ev_tupQ (mq ev_str mq_nil)) (by exact fun _ _ a b=>⟨_,_,a,b,by have:=hat.sups;simp;exact q1 ‹_›,by simp⟩))) (mq (cellE (p:=1) (d:=.int t.spot) (.head _) rfl) mq_nil))).to fun d e=>⟨_,_,hm.m.tame.set hO.at_ (hat.tame.sup hat.sups okS_Z),way1b hm.m hO.at_ hs,e⟩) (by exact q9)) fun v G' s' z q=>fin z q
 rw [if_neg (by simp [h1])]
 refine st_nil ?_
 refine st_if a noN c3 (P:=fun b=>b=decide (way=1)) (wyT (i:=1)) ?_
 rintro _ G4 s4 rfl c4
 rw [if_neg (by simpa using h1)]
 refine st_nil ?_
 refine st_ifD a noN c4 (p:=way=2) (wyT (i:=2)) (fun G5 s5 h2 c5=>?_) (fun G5 s5 h2 c5=>?_)
 ·
  refine st_tupB (xs:=["by_name","at"]) (P:=fun Ks=>∃ kA tA,OfN its "A" kA tA∧Ks=[dat w.params (.dct (entL (rowsS (sigsOf its)))),dat w.params (.int ((kA:Nat):Int))])
   (ρs:=fun Ks=>match Ks with | [k1,k2]=>T w ad cs (B+1) (bsR w ad its way [kR w "k" k,(some ("by_name" : Str),k1),(some ("at" : Str),k2)]) | _=>[]) a c5
   (trsO_cons (P1:=fun K=>∃ d,K=dat w.params d∧d=.dct (entL (rowsS (sigsOf its)))) (Ev.o (ev_byname hm.len hm.nl hm.fine.nd (by have:=hm.rl;exact q6 ‹_›) (evv_blt rfl (by rfl) rfl rfl rfl rfl) (evv_glob rfl (by rfl) rfl rfl) itE)) fun K v ⟨d1,e1,e2⟩=>
    trsO_cons (P1:=fun K=>∃ d,K=dat w.params d∧∃ kA tA,OfN its "A" kA tA∧d=.int ((kA:Nat):Int)) (EvO.under (Ev.o (ev_ofn hm.len hm.ok hm.kA hof itE ev_str))) fun K2 v2 ⟨d2,e3,kA,tA,e4,e5⟩=>trsO_nil ⟨kA,tA,e4,by rw [e1,e2,e3,e5]⟩) rfl rfl (Nat.le_of_ble_eq_true rfl) rfl
   (.inl ⟨.name (.inr ⟨rfl,rfl,rfl⟩) (.name (.inl rfl) .nil),rfl,rfl,?_⟩) ?_
  ·rintro Ks ⟨kA,tA,_,rfl⟩
   exact .cons (.skip (fun h=>nomatch h) (.skip (by decide) (.skip (by decide) (.skip (by decide) (.skip (by decide) (.skip (by decide) .new)))))) (.cons (.skip (fun h=>nomatch h) (.skip (by decide) (.skip (by decide) (.skip (by decide) (.skip (by decide) (.skip (by decide) (.skip (by decide) .new))))))) .nil)
  rintro Ks G6 s6 ⟨kA,tA,hA,rfl⟩ c6
  have c6:St w (envBs L) G s [ad] (T w ad cs (B+1) (bsR w ad its way [kR w "k" k,(some ("by_name" : Str),dat w.params (.dct (entL (rowsS (sigsOf its))))),kR w "at" kA])) G6 s6:=c6
  have hatA:=hm.m.at_ hA.at_
  have htA:tA∈sigsOf its:=mem_sigsOf (List.mem_of_getElem? hA.at_)
  have hltA:look (rowsS (sigsOf its)) "A" = some tA:=look_of_nd (p:=("A",tA)) hm.fine.nd (mem_rows.mpr ⟨htA,hA.nm⟩)
  have hbA:belowB (rowsS (sigsOf its)) "A" = true:=by
   unfold belowB
   rw [hltA]
   show (tA.sups.isEmpty&&_)=true
   rw [(hm.m.four.1.upA htA hA.nm).2.1,isBelow_spec.mpr (.inl rfl)];rfl
  refine st_asgComp (n:=n+3) (Pds:=fun ds=>ds=(keys (rowsS (sigsOf its))).map .str) (P:=fun l=>l=((keys (rowsS (sigsOf its))).filter (belowB (rowsS (sigsOf its)))).map .str) (cl:=[("by_name",L+2)]) _
   [(some ("by_name" : Str),dat w.params (.dct (entL (rowsS (sigsOf its)))))] (fun d=>[(some ("by_name" : Str),dat w.params (.dct (entL (rowsS (sigsOf its))))),(some ("one" : Str),dat w.params d)])
   (pB (rowsS (sigsOf its))) (fun d r=>r=d) (ρ':=fun al l=>T w ad cs (B+1) (bsR w ad its way [kR w "k" k,(some ("by_name" : Str),dat w.params (.dct (entL (rowsS (sigsOf its))))),kR w "at" kA,(some ("below" : Str),own w.params al l)])) a c6 c6
   (ite_lst (ev_name (d:=.lst ((keys (rowsS (sigsOf its))).map .str)) mh4 rfl) fun d h=>⟨_,h,rfl⟩)
   rfl (by decide) rfl (by decide) ?hcl ?hclp ?hcap ?hasg (fun d=>List.sublist_append_left [_] [_]) ?htest ?helt ?hP ?hu rfl rfl ?kb
  case hcl=>
   intro y cc h
   simp only [List.lookup_cons,List.lookup_nil] at h
   split at h
   ·cases h;exact ⟨"by_name",rfl⟩
   ·cases h
  case hclp=>simp
  case hcap=>exact .drop (.drop (.drop (.drop (.drop (.drop (.var (.inl rfl) rfl (by first | exact .inl rfl | exact .inr rfl) (.drop .nil)))))))
  case hasg=>
   rintro C K1 K2 A E G₀ s₀ G s ds d v aa rfl hd hr cc
   exact st_name cc hr (.skip (fun h=>nomatch h) (.skip (fun h=>nomatch h) (.skip (by decide) .new))) rfl (.inl rfl) fun s' c'=>⟨_,c'⟩
  case htest=>
   rintro C K1 K2 ds d rfl hd
   obtain ⟨y,hy,rfl⟩:=List.mem_map.mp hd
   obtain ⟨ty,hty⟩:=look_of_mem hy
   have hpb:pB (rowsS (sigsOf its)) (.str y)=(ty.sups.isEmpty&&isBelow (rowsS (sigsOf its)) y):=by
    show belowB _ y=_
    unfold belowB
    rw [hty]
   rw [hpb]
   exact .one (tr_and' (P1:=fun b=>b=ty.sups.isEmpty) (P2:=fun b=>b=isBelow (rowsS (sigsOf its)) y)
    (tr_unit (ss:=ty.sups) (fun u hu=>(hm.clo.oks _ _ hty).1 u (up_of_sup hu)) (pu_tup (l:=sgL ty) (k:=6) (ev_sub_dct (P:=fun x=>x=encS ty) (ev_name (d:=.dct (entL (rowsS (sigsOf its)))) mh2 rfl) (ev_name (d:=.str y) mh3 rfl) (by rintro _ _ rfl rfl;exact ⟨_,_,_,rfl,rfl,entL_look hty,rfl⟩)) (by show (9:Nat)≤1000000;decide) rfl) (ev_tupQ mq_nil))
    (fun _=>tr_below (n:=n+1) hm.clo hm.rl (hm.fine.okk y hy).1 hty (evv_glob rfl (by rfl) rfl rfl) (ev_name (d:=.dct (entL (rowsS (sigsOf its)))) mh2 rfl) (ev_name (d:=.str y) mh3 rfl) (ev_name (d:=.str y) mh3 rfl))
    (by rintro a b rfl h;cases h1:ty.sups.isEmpty with | true=>rw [h h1] | false=>rfl))
  case helt=>
   rintro C K1 K2 ds d rfl hd hpd
   exact ev_name mh3 rfl
  case hP=>
   rintro ds l rfl
   refine ⟨by have:=kl.2;exact q1 ‹_›,fun h=>?_⟩
   rw [all2_eq h,filter_pB]
  case hu=>
   intro C al l
   exact .skip (fun e=>nomatch e) (.skip (fun e=>nomatch e) (.skip (by decide) (.skip (by decide) (.skip (by decide) (.skip (by decide) (.skip (by decide) (.skip (by decide) (.skip (by decide) .new))))))))
  case kb=>
   rintro al _ G7 s7 rfl hnew c7
   obtain ⟨G8,c8⟩:=c7.frzH (.tail (.tail (.tail (.tail (.tail (.tail (.tail (.tail .head)))))))) hnew
   have hfl:((keys (rowsS (sigsOf its))).filter (belowB (rowsS (sigsOf its)))).length≤1000:=by
    have h1:=List.length_filter_le (belowB (rowsS (sigsOf its))) (keys (rowsS (sigsOf its)))
    have h2:=kl.2
    rw [List.length_map] at h2
    exact q2 ‹_› ‹_›
   refine st_asgT (B':=B+2) (P:=fun d=>∃ y,BelowQ (rowsS (sigsOf its)) y∧d=.lst ((its.set kA (.sig {tA with parent:=y})).map encI)) a c8
    (t_call (PA:=fun l=>∃ y,BelowQ (rowsS (sigsOf its)) y∧l=[.lst (its.map encI),.int (kA:Int),.int ((5:Nat):Int),.str y]) ff_put hpt
     (trsT_cons (P1:=fun d=>d=.lst (its.map encI)) (P2:=fun l=>∃ y,BelowQ (rowsS (sigsOf its)) y∧l=[.int (kA:Int),.int ((5:Nat):Int),.str y]) itE
      (trsT_cons (P1:=fun d=>d=.int (kA:Int)) (P2:=fun l=>∃ y,BelowQ (rowsS (sigsOf its)) y∧l=[.int ((5:Nat):Int),.str y]) (ev_name (x:="at") mh7 rfl)
       (trsT_cons (P1:=fun d=>d=.int ((5:Nat):Int)) (P2:=fun l=>∃ y,BelowQ (rowsS (sigsOf its)) y∧l=[.str y]) (ev_int (k:=0) (pos:=⟨235,35,235,36⟩))
        (trsT_here (P1:=fun d=>∃ y,BelowQ (rowsS (sigsOf its)) y∧d=.str y) (t_pick (x:="below") mh7 (.head _) rfl hdr hln hC (by exact q7 ‹_›) (by rw [List.length_map];exact List.length_pos_of_mem (List.mem_filter.mpr ⟨hm.kA,hbA⟩)) (by rw [List.length_map];exact hfl) (fun d hd=>by
         obtain ⟨y,hy,rfl⟩:=List.mem_map.mp hd
         exact ⟨y,belowB_spec (List.mem_filter.mp hy).2,rfl⟩)) mq_nil (by rintro _ _ ⟨y,h,rfl⟩ rfl;exact ⟨y,h,rfl⟩))
        (by rintro _ _ rfl ⟨y,h,rfl⟩;exact ⟨y,h,rfl⟩))
       (by rintro _ _ rfl ⟨y,h,rfl⟩;exact ⟨y,h,rfl⟩))
      (by rintro _ _ rfl ⟨y,h,rfl⟩;exact ⟨y,h,rfl⟩)) rfl ⟨_,_,rfl⟩
     (fun G s vs ds i b r ⟨y,h,q⟩=>by subst q;exact Op.monoD (c_put' (t':={tA with parent:=y}) hm.len hA.at_ (by decide) rfl i b r) fun d e=>⟨y,h,e⟩))
    (ρ':=fun d=>bsR w ad its way [kR w "k" k,(some ("by_name" : Str),dat w.params (.dct (entL (rowsS (sigsOf its))))),kR w "at" kA,(some ("below" : Str),dat w.params (.lst (((keys (rowsS (sigsOf its))).filter (belowB (rowsS (sigsOf its)))).map .str))),(some ("bent" : Str),dat w.params d)])
    (fun d=>.skip (by decide) (.skip (by decide) (.skip (by decide) (.skip (by decide) (.skip (by decide) (.skip (by decide) (.skip (by decide) (.skip (by decide) .new)))))))) rfl (.inl rfl) ?_
   rintro _ G9 s9 ⟨y,⟨ty,hy,hys,hya⟩,rfl⟩ c9
   obtain ⟨g1,p,rr,hpr,hR⟩:=way2 hm.m hA.at_ hA.nm hy hys hya
   have tm:Tame (its.set kA (.sig {tA with parent:=y})):=hm.m.tame.set hA.at_ (hatA.tame.par (hm.fine.okk y (look_in_keys hy)))
   generalize hit':its.set kA (.sig {tA with parent:=y})=its' at g1 hpr hR tm c9
   have bnE:∀ {pos},Ev w (envBs L) (n+3) [] (T w ad cs (B+2) (bsR w ad its way [kR w "k" k,(some ("by_name" : Str),dat w.params (.dct (entL (rowsS (sigsOf its))))),kR w "at" kA,(some ("below" : Str),dat w.params (.lst (((keys (rowsS (sigsOf its))).filter (belowB (rowsS (sigsOf its)))).map .str))),(some ("bent" : Str),dat w.params (.lst (its'.map encI)))])) (.Name "bent" pos) (fun d=>d=.lst (its'.map encI)):=fun {pos}=>ev_name mh9 rfl
   have hl':=tm.len
   have hrl:=tm.rlen
   exact st_retT (B':=B+2) (P:=BentD) a c9 (t_pure ((ev_tupQ (mq bnE (mq (pu_tup (l:=sgL p.2) (k:=1) (d:=.int p.2.spot) (pu_tup (l:=[.str p.1,encS p.2]) (k:=1) (ev_sub_lst (P1:=fun d=>d=.lst ((told (rowsS (sigsOf its'))).2.map rowD)) (P2:=fun d=>d=.int 0) (P:=fun d=>d=rowD p) (pu_tup (l:=[.lst ((told (rowsS (sigsOf its'))).1.map .str),.lst ((told (rowsS (sigsOf its'))).2.map rowD)]) (k:=1)
     (evk_call (PA:=fun l=>l=[.lst (its'.map encI)]) ff_told (evv_glob rfl (by rfl) rfl rfl) (trs1 bnE (fun _ h=>by rw [h])) rfl ⟨_,_,rfl⟩ (fun _ _ _ _ _ x _=>x) (fun G s vs ds i b r q=>by subst q;exact c_told (n:=n+1) (by exact q1 ‹_›) (fun t ht=>by have:=(tm.sigs t ht).names.1;exact q1 ‹_›) (tm.fine g1) i b r)) (by simp) rfl) ev_int
     (by rintro _ _ rfl rfl;refine ⟨_,_,rowD p,rfl,rfl,?_,by exact qd,by rw [hpr];rfl,rfl⟩;rw [List.length_map];have h1:=toldF_perm (rowsS (sigsOf its')).length [] (rowsS (sigsOf its'));have h2:=h1.length_eq;simp only [List.length_append,keys,List.length_map,List.length_nil] at h2;unfold told;omega)) (by simp) rfl) (by show (9:Nat)≤1000000;decide) rfl) mq_nil))).to fun d e=>⟨_,_,tm,hR,e⟩) (by exact Nat.le_refl _)) fun v G' s' z q=>fin z q
 refine st_nil ?_
 refine st_ifD a noN c5 (p:=way=3) (wyT (i:=3)) (fun G6 s6 h3 c6=>?_) (fun G6 s6 h3 c6=>?_)
 ·
  have h5:=hm.m.len
  refine st_asgComp (n:=n+3) (Pds:=fun ds=>ds=(List.range its.length).map fun i=>D.int ((i:Nat):Int)) (P:=fun l=>l=intsD ((List.range its.length).filter (isS its))) (cl:=[("items",L+1)]) _
   [(some ("items" : Str),dat w.params (.lst (its.map encI)))] (fun d=>[(some ("items" : Str),dat w.params (.lst (its.map encI))),(some ("j" : Str),dat w.params d)])
   (pS its) (fun d r=>r=d) (ρ':=fun al l=>T w ad cs (B+1) (bsR w ad its way [kR w "k" k,(some ("able" : Str),own w.params al l)])) a c6 c6
   (ite_range (P1:=fun d=>d=.int (its.length:Int)) (evv_blt rfl (by rfl) rfl rfl rfl rfl) (ev_lenS (P1:=fun l=>l=its.map encI) hln (evs_lst itE fun d h=>⟨_,h,rfl⟩) rfl (by rintro _ rfl;exact ⟨by simp;exact q5 ‹_›,by simp⟩)) rfl (by exact fun _ a=>⟨_,a,by exact q5 ‹_›,rfl⟩))
   rfl (by decide) rfl (by decide) ?hcl ?hclp ?hcap ?hasg (fun d=>List.sublist_append_left [_] [_]) ?htest ?helt ?hP ?hu rfl rfl ?kb
  case hcl=>
   intro y cc h
   simp only [List.lookup_cons,List.lookup_nil] at h
   split at h
   ·cases h;exact ⟨"items",rfl⟩
   ·cases h
  case hclp=>simp
  case hcap=>exact .drop (.drop (.var (.inl rfl) rfl (by first | exact .inl rfl | exact .inr rfl) (.drop (.drop (.drop .nil)))))
  case hasg=>
   rintro C K1 K2 A E G₀ s₀ G s ds d v aa rfl hd hr cc
   exact st_name cc hr (.skip (fun h=>nomatch h) (.skip (fun h=>nomatch h) (.skip (by decide) .new))) rfl (.inl rfl) fun s' c'=>⟨_,c'⟩
  case htest=>
   rintro C K1 K2 ds d rfl hd
   obtain ⟨j,hj,rfl⟩:=List.mem_map.mp hd
   have hj:=List.mem_range.mp hj
   obtain ⟨im,him⟩:∃ im,its[j]? = some im:=⟨its[j],List.getElem?_eq_getElem hj⟩
   have hrow:∀ {env':Env} (hk':env'.scope.kind=.function) {p1 p2 p3},Ev w env' (n+3) [] [(none,K1),(none,K2),(some ("items" : Str),dat w.params (.lst (its.map encI))),(some ("j" : Str),dat w.params (.int (j:Int)))] (.Subscript (.Name "items" p1) (.Name "j" p2) p3) (fun d=>d=encI im):=fun {env'} hk' {p1 p2 p3}=>ev_sub_lst (ev_name mh2 hk') (ev_name mh3 hk') (by rintro _ _ rfl rfl;exact ⟨_,_,_,rfl,rfl,by simp;exact q5 ‹_›,by exact qd,by simp [him],rfl⟩)
   have hp:pS its (.int (j:Int))=isSI im:=by
    show isS its j=_
    unfold isS
    rw [him]
   rw [hp]
   cases im with
   | opn o=>exact .one (tr_and' (P1:=fun b=>b=false) (P2:=fun _=>True) (tr_eq_str (P1:=fun d=>d=.str "open") (P2:=fun d=>d=.str "sig") (pu_tup (hrow rfl) (by simp) rfl) ev_str (by exact fun _ _ a b=>⟨_,_,a,b,rfl⟩)) (fun h=>nomatch h) (by rintro _ _ rfl _;rfl))
   | sig u=>
    have hatu:=hm.m.at_ him
    exact .one (tr_and' (P1:=fun b=>b=true) (P2:=fun b=>b=u.sups.isEmpty) (tr_eq_str (P1:=fun d=>d=.str "sig") (P2:=fun d=>d=.str "sig") (pu_tup (hrow rfl) (by simp) rfl) ev_str (by exact fun _ _ a b=>⟨_,_,a,b,rfl⟩))
     (fun _=>tr_unit (ss:=u.sups) (fun y hy=>(hatu.tame.up y (up_of_sup hy)).1) (pu_tup (l:=sgL u) (k:=6) (hrow rfl) (by show (9:Nat)≤1000000;decide) rfl) (ev_tupQ mq_nil)) (by rintro _ _ rfl h;rw [h rfl];rfl))
  case helt=>
   rintro C K1 K2 ds d rfl hd hpd
   exact ev_name mh3 rfl
  case hP=>
   rintro ds l rfl
   refine ⟨by simp;exact q5 ‹_›,fun h=>?_⟩
   rw [all2_eq h,filter_pS]
  case hu=>
   intro C al l
   exact .skip (fun e=>nomatch e) (.skip (fun e=>nomatch e) (.skip (by decide) (.skip (by decide) (.skip (by decide) (.skip (by decide) (.skip (by decide) .new))))))
  case kb=>
   rintro al _ G7 s7 rfl hnew c7
   obtain ⟨G8,c8⟩:=c7.frzH (.tail (.tail (.tail (.tail (.tail (.tail .head)))))) hnew
   have hfl:(intsD ((List.range its.length).filter (isS its))).length≤1000:=by
    have h1:=List.length_filter_le (isS its) (List.range its.length)
    rw [List.length_range] at h1
    unfold intsD
    rw [List.length_map]
    exact qh ‹_› ‹_›
   have hpos:0 < (intsD ((List.range its.length).filter (isS its))).length:=by
    obtain ⟨t0,ht0,hs0⟩:=hm.m.four.1.has 0 (by decide)
    obtain ⟨n0,ns0,en⟩:=hm.m.four.1.names ht0
    obtain ⟨j,tj,_,hj,hn⟩:=ofN_some (its:=its) (mem_keys.mpr ⟨t0,ht0,(by rw [en];exact .head _:n0∈t0.names)⟩)
    have:tj=t0:=hm.m.four.1.one (mem_sigsOf (List.mem_of_getElem? hj)) ht0 hn (by rw [en];exact .head _)
    rw [this] at hj
    have h3:=hs0.sups
    rw [if_pos (by decide)] at h3
    refine List.length_pos_of_mem (a:=.int (j:Int)) (List.mem_map.mpr ⟨j,List.mem_filter.mpr ⟨List.mem_range.mpr (List.getElem?_eq_some_iff.mp hj).1,?_⟩,rfl⟩)
    unfold isS
    rw [hj]
    show t0.sups.isEmpty=true
    rw [h3];rfl
   refine st_asgT (B':=B+2) (P:=fun d=>∃ j t3,its[j]? = some (Im.sig t3)∧t3.sups=[]∧d=.int ((j:Nat):Int)) a c8
    (t_pick (x:="able") mh5 (.head _) rfl hdr hln hC (by exact q7 ‹_›) hpos hfl (fun d hd=>by
     obtain ⟨j,hj,rfl⟩:=List.mem_map.mp hd
     obtain ⟨t3,h1,h2⟩:=isS_spec (List.mem_filter.mp hj).2
     exact ⟨j,t3,h1,h2,rfl⟩))
    (ρ':=fun d=>bsR w ad its way [kR w "k" k,(some ("able" : Str),dat w.params (.lst (intsD ((List.range its.length).filter (isS its))))),(some ("at" : Str),dat w.params d)])
    (fun d=>.skip (by decide) (.skip (by decide) (.skip (by decide) (.skip (by decide) (.skip (by decide) (.skip (by decide) .new)))))) rfl (.inl rfl) ?_
   rintro _ G9 s9 ⟨j,t3,hj,hs3,rfl⟩ c9
   have hat3:=hm.m.at_ hj
   have atE:∀ {ρ':Rho} {pos},(some ("at" : Str),dat w.params (.int (j:Int)))∈ρ'→Ev w (envBs L) (n+3) [] ρ' (.Name "at" pos) (fun d=>d=.int (j:Int)):=fun h=>ev_name h rfl
   have m6:∀ {q0 q1 q2 q3 q4 q5 q6 q7:Option Str×Kd} {r:Rho},q7∈q0::q1::q2::q3::q4::q5::q6::q7::r:=mh7
   exact st_retT (B':=B+2) (P:=BentD) a c9 (t_pure ((ev_tupQ (mq (ev_put (t':={t3 with parent:="P"}) (p:=5) hm.len hj (by decide) rfl hpt itE (atE m6) ev_int ev_str) (mq (ev_cell (p:=1) (d:=.int t3.spot) mh2 rfl hm.len hj (atE m6) rfl) mq_nil))).to fun d e=>⟨_,_,hm.m.tame.set hj (hat3.tame.par okS_P),way3 hm.m hj hs3,e⟩) (by exact Nat.le_refl _)) fun v G' s' z q=>fin z q
 refine st_nil ?_
 refine st_asg (P:=fun d=>∃ kP tP,OfN its "P" kP tP∧d=.int ((kP:Nat):Int)) a noN c6 (ev_ofn hm.len hm.ok hm.kP hof itE ev_str)
  (ρ':=fun d=>T w ad cs (B+1) (bsR w ad its way [kR w "k" k,(some ("at" : Str),dat w.params d)])) (fun d=>.skip (fun h=>nomatch h) (.skip (by decide) (.skip (by decide) (.skip (by decide) (.skip (by decide) (.skip (by decide) .new)))))) rfl (.inl rfl) ?_
 rintro _ G7 s7 ⟨kP,tP,hP,rfl⟩ c7
 have hatP:=hm.m.at_ hP.at_
 have atE:∀ {ρ':Rho} {pos},(some ("at" : Str),dat w.params (.int (kP:Int)))∈ρ'→Ev w (envBs L) (n+3) [] ρ' (.Name "at" pos) (fun d=>d=.int (kP:Int)):=fun h=>ev_name h rfl
 have m5:∀ {q0 q1 q2 q3 q4 q5 q6:Option Str×Kd} {r:Rho},q6∈q0::q1::q2::q3::q4::q5::q6::r:=mh6
 have hsP:tP.sups≠[]:=by
  obtain ⟨q,hq,hp,hqs⟩:=hm.m.four.1.supP
  rw [hm.m.four.1.one (mem_sigsOf (List.mem_of_getElem? hP.at_)) hq hP.nm hp]
  exact hqs
 exact st_retT (B':=B+2) (P:=BentD) a c7 (t_pure ((ev_tupQ (mq (ev_put (t':={tP with abs:=true}) (p:=3) hm.len hP.at_ (by decide) rfl hpt itE (atE m5) ev_int ev_bool) (mq (ev_cell (p:=1) (d:=.int tP.spot) mh2 rfl hm.len hP.at_ (atE m5) rfl) mq_nil))).to fun d e=>⟨_,_,hm.m.tame.set hP.at_ hatP.tame.ab,way4 hm.m hP.at_ hsP,e⟩) (by exact q9)) fun v G' s' z q=>fin z q
end Mine
end
section
namespace Mine
variable {w:World} {env:Env} {n:Nat} {N:List Addr} {ρ:Rho} {ad:Addr} {cs:List D} {B B' B'':Nat} {its:List Im}
theorem ev_sub_int {l r pos} {P1 P2 P:D→Prop} (hl:Ev w env n N ρ l P1) (hr:Ev w env n N ρ r P2) (h:∀ d1 d2,P1 d1→P2 d2→E2 .int .int d1 d2 fun x y=>P (.int (x - y))):Ev w env n N ρ (.BinOp l .Sub r pos) P:=
 ev_bin hl hr fun G s v1 v2 d1 d2 i _ p1 p2 r1 r2=>by
  obtain ⟨x,y,rfl,rfl,hp⟩:=h _ _ p1 p2
  obtain ⟨_,rfl⟩:=r1.inv;obtain ⟨_,rfl⟩:=r2.inv
  exact .tok i (.int _ s.toks) hp _ fun A Q E _ q=>PyProof.Rows.sub_int q
theorem tm_cons {e:PySem.Expr} {es:List PySem.Expr} {P1:D→Prop} {P2 P:List D→Prop} (h1:Ev w env n [] (T w ad cs B ρ) e P1) (h2:TrsT w env n ad cs ρ B B' (ml env es) P2) (h:∀ d ds,P1 d→P2 ds→P (d::ds)):TrsT w env n ad cs ρ B B' (ml env (e::es)) P:=trsT_cons h1 h2 h
theorem tm_here {e:PySem.Expr} {es:List PySem.Expr} {P1:D→Prop} {P2 P:List D→Prop} (h1:EvT w env n ad cs ρ B B' e P1) (h2:Trs w env n [] (T w ad cs B' ρ) (ml env es) P2) (h:∀ d ds,P1 d→P2 ds→P (d::ds)):TrsT w env n ad cs ρ B B' (ml env (e::es)) P:=trsT_here h1 h2 h
theorem t_tupM {elts:List PySem.Expr} {k pos} {P:List D→Prop} (h:TrsT w env n ad cs ρ B B' (ml env elts) P) (ht:backTo pos (starEach elts env)=ml env elts:=by rfl) (hsz:elts.length≤100:=by simp) :
  EvT w env n ad cs ρ B B' (.Tuple elts k pos) (fun d=>∃ l,d=.tup l∧P l):=t_tuple h ht (by unfold ml;simpa using hsz)
noncomputable def pB6 (rows:List (Str×Sg)):D→Bool
 | .str y=>isBelow rows y
 | _=>false
theorem filter_pB6 (rows:List (Str×Sg)) (l:List Str):(l.map D.str).filter (pB6 rows)=(l.filter (isBelow rows)).map D.str:=by
 rw [List.filter_map];congr 1
noncomputable def lateT (i:Nat):List D:=[.str (lateO i).md,.tup ((lateO i).args.map .str),.str (lateO i).al]
noncomputable abbrev lateL:List D:=[.tup [.str "util/ordering",.tup [.str "Z"],.str "w"],.tup [.str "util/ordering",.tup [.str "C"],.str "o"],.tup [.str "util/other",.tup [.str "A"],.str "w"],.tup [.str "util/ordering",.tup [.str "A",.str "C"],.str "w"]]
theorem lateL_at {i:Nat} (h:i < 4):lateL[i]? = some (.tup (lateT i)):=by
 match i,h with
 | 0,_=>rfl
 | 1,_=>rfl
 | 2,_=>rfl
 | 3,_=>rfl
theorem late_enc {i:Nat} (h:i < 4):D.tup ([.str "open",.int 700]++lateT i)=encI (.opn (lateO i)):=by
 match i,h with
 | 0,_=>rfl
 | 1,_=>rfl
 | 2,_=>rfl
 | 3,_=>rfl
noncomputable def envBr (L:Addr):Env:=callEnvC (lawFd 22 "_law_bent_rest" 340) L 341
theorem ev_d6 {z:Int} {k1 k2 k3 k4 k5 k6 k7 k8 k9 k10 p1 p2 p3 p4 p5 p6 p7 p8 p9 p10}:Ev w env n N ρ (.Tuple [.Constant (.int z) k1 p1,.Constant (.bool false) k2 p2,.Tuple [.Constant (.str "h") k3 p3] k4 p4,.Constant (.str "") k5 p5,.Tuple [.Constant (.str "name") k6 p6,.Constant (.int 0) k7 p7,.Constant (.str "A") k8 p8] k9 p9] k10 p10) (fun d=>d=encDc (d6 z)):=by
 with_reducible refine Ev.to (P:=fun d=>d=.tup [.int z,.bool false,.tup [.str "h"],.str "",.tup [.str "name",.int 0,.str "A"]]) ?_ ?_
 ·with_reducible refine ev_tupQ ?_ ?_ ?_
  ·with_reducible refine mq ?_ (mq ?_ (mq ?_ (mq ?_ (mq ?_ mq_nil))))
   ·exact ev_int
   ·exact ev_bool
   ·exact ev_tupQ (mq ev_str mq_nil)
   ·exact ev_str
   ·exact ev_tupQ (mq ev_str (mq ev_int (mq ev_str mq_nil)))
  ·rfl
  ·simp
 ·intro d e;rw [e];rfl
set_option maxHeartbeats 2000000 in
theorem o_brest (hC:Cs cs) (hB:B≤1000) (hm:Md its):OpT w (n+4) ad cs B (B+2) 341 (fun ds=>∃ way:Nat,(5≤way∧way < 11)∧ds=[.adr ad,.lst (its.map encI),.int (way:Int),.lst ((keys (rowsS (sigsOf its))).map .str)]) (fun _ d=>BentD d):=by
 refine op_tp ff_brest ["tape","items","way","names"] (bind4 fun _ _ _ _=>rfl) (by decide) (by decide +kernel) (fun ds ⟨way,_,e⟩=>by subst e;rfl) fun L ds A G s s₁ Q E ⟨way,hw,e⟩ a c kk=>?_
 subst e
 change St w (envBr L) _ _ _ _ _ _ at c
 change wpAny _ _ (execs _ (envBr L)) _ _ _
 have hdr:∀ {ρ:Rho} {pos},EvV w (envBr L) (n+3) [] ρ (.Name "_law_draw" pos) (.ref 273):=fun {ρ pos}=>evv_glob rfl (by rfl) rfl rfl
 have hln:∀ {ρ:Rho} {pos},EvV w (envBr L) (n+3) [] ρ (.Name "len" pos) (.builtin "len"):=fun {ρ pos}=>evv_blt rfl (by rfl) rfl rfl rfl rfl
 have hof:∀ {ρ:Rho} {pos},EvV w (envBr L) (n+3) [] ρ (.Name "_law_of_name" pos) (.ref 331):=fun {ρ pos}=>evv_glob rfl (by rfl) rfl rfl
 have hpt:∀ {ρ:Rho} {pos},EvV w (envBr L) (n+3) [] ρ (.Name "_law_put" pos) (.ref 326):=fun {ρ pos}=>evv_glob rfl (by rfl) rfl rfl
 have fin:∀ {ρ:Rho} {v:Value} {G':Fz} {s':Shared},St w (envBr L) G s [ad] (T w ad cs (B+2) ρ) G' s'→KD w BentD v G' s'→Q (.ret v) s':=fun {ρ v G' s'} z q=>kk (.ret v) G' s' z.step (z.vars _ (.head _)) q
 have c0:St w (envBr L) G s [ad] (T w ad cs B (bsR w ad its way [])) G s₁:=c
 have kl:=hm.klen
 have itE:∀ {ρ':Rho} {pos} {b:Nat},Ev w (envBr L) (n+3) [] (T w ad cs b (bsR w ad its way ρ')) (.Name "items" pos) (fun d=>d=.lst (its.map encI)):=fun {ρ' pos b}=>ev_name (d:=.lst (its.map encI)) mh2 rfl
 have wyE:∀ {ρ':Rho} {pos} {b:Nat},Ev w (envBr L) (n+3) [] (T w ad cs b (bsR w ad its way ρ')) (.Name "way" pos) (fun d=>d=.int (way:Int)):=fun {ρ' pos b}=>ev_name (d:=.int (way:Int)) mh3 rfl
 have wyT:∀ {ρ':Rho} {b:Nat} {i:Nat} {kk p1 p2 p3},Tr w (envBr L) (n+3) [] (T w ad cs b (bsR w ad its way ρ')) (.Compare (.Name "way" p1) [.Eq] [.Constant (.int (i:Int)) kk p2] p3) (fun b=>b=decide (way=i)):=fun {ρ' b i kk p1 p2 p3}=>tr_eq_int wyE ev_int (by rintro _ _ rfl rfl;refine ⟨_,_,rfl,rfl,?_⟩;rw [Bool.eq_iff_iff];simp;exact qf)
 have hlen:=hm.m.len
 refine st_ifD a noN c0 (p:=way=5) (wyT (i:=5)) (fun G1 s1 h5 c1=>?_) (fun G1 s1 h5 c1=>?_)
 ·
  refine st_asgT (B':=B+1) (P:=fun d=>∃ k t y,True∧OfN its y k t∧d=.int ((k:Nat):Int)) a c1 (t_ofn hm.len hm.ok hof itE (t_pick mh3 (.head _) rfl hdr hln hC (by exact q1 ‹_›) kl.1 kl.2 (fun d hd=>strk hd)))
   (ρ':=fun d=>bsR w ad its way [(some ("k" : Str),dat w.params d)]) (fun d=>.skip (by decide) (.skip (by decide) (.skip (by decide) (.skip (by decide) .new)))) rfl (.inl rfl) ?_
  rintro _ G2 s2 ⟨k,t,y0,_,hO,rfl⟩ c2
  have hat:=hm.m.at_ hO.at_
  refine st_asgT (B':=B+2) (P:=fun d=>∃ y,y∈keys (rowsS (sigsOf its))∧d=encDc (d600 y)) a c2
   (t_mono (t_tupM (P:=fun l=>∃ y,y∈keys (rowsS (sigsOf its))∧l=[.int 600,.bool false,.tup [.str y],.str "",.tup [.str "name",.int 0,.str "A"]])
    (tm_cons (P1:=fun d=>d=.int 600) (P2:=fun l=>∃ y,y∈keys (rowsS (sigsOf its))∧l=[.bool false,.tup [.str y],.str "",.tup [.str "name",.int 0,.str "A"]]) ev_int
     (tm_cons (P1:=fun d=>d=.bool false) (P2:=fun l=>∃ y,y∈keys (rowsS (sigsOf its))∧l=[.tup [.str y],.str "",.tup [.str "name",.int 0,.str "A"]]) ev_bool
      (tm_here (P1:=fun d=>∃ l,d=.tup l∧∃ y,y∈keys (rowsS (sigsOf its))∧l=[.str y]) (P2:=fun l=>l=[.str "",.tup [.str "name",.int 0,.str "A"]])
       (t_tupM (P:=fun l=>∃ y,y∈keys (rowsS (sigsOf its))∧l=[.str y]) (tm_here (P1:=fun d=>∃ y,y∈keys (rowsS (sigsOf its))∧True∧d=.str y) (t_pick mh3 (.head _) rfl hdr hln hC (by exact q7 ‹_›) kl.1 kl.2 (fun d hd=>strk hd)) mq_nil (by rintro _ _ ⟨y,h,_,rfl⟩ rfl;exact ⟨y,h,rfl⟩)))
       (mq ev_str (mq (ev_tupQ (mq ev_str (mq ev_int (mq ev_str mq_nil)))) mq_nil)) (by rintro _ _ ⟨_,rfl,y,h,rfl⟩ rfl;exact ⟨y,h,rfl⟩))
      (by rintro _ _ rfl ⟨y,h,rfl⟩;exact ⟨y,h,rfl⟩))
     (by rintro _ _ rfl ⟨y,h,rfl⟩;exact ⟨y,h,rfl⟩))) fun d ⟨l,e,y,h,e2⟩=>⟨y,h,by rw [e,e2];rfl⟩)
   (ρ':=fun d=>bsR w ad its way [kR w "k" k,(some ("decl" : Str),dat w.params d)]) (fun d=>.skip (by decide) (.skip (by decide) (.skip (by decide) (.skip (by decide) (.skip (by decide) .new))))) rfl (.inl rfl) ?_
  rintro _ G3 s3 ⟨y,hy,rfl⟩ c3
  have hkE:∀ {ρ':Rho} {pos},kR w "k" k∈ρ'→Ev w (envBr L) (n+3) [] ρ' (.Name "k" pos) (fun d=>d=.int (k:Int)):=fun h=>ev_name (d:=.int (k:Int)) h rfl
  have dcE:∀ {ρ':Rho} {pos},(some ("decl" : Str),dat w.params (encDc (d600 y)))∈ρ'→Ev w (envBr L) (n+3) [] ρ' (.Name "decl" pos) (fun d=>d=encDc (d600 y)):=fun h=>ev_name h rfl
  have m4:∀ {q0 q1 q2 q3 q4 q5:Option Str×Kd} {r:Rho},q5∈q0::q1::q2::q3::q4::q5::r:=mh5
  exact st_retT (B':=B+2) (P:=BentD) a c3 (t_pure ((ev_tupQ (mq (ev_put (t':={t with decls:=d600 y::t.decls}) (p:=7) (x:=.tup ((d600 y::t.decls).map encDc)) hm.len hO.at_ (by decide) rfl hpt itE (hkE m4) ev_int
    (ev_add_tup (P1:=fun d=>d=.tup [encDc (d600 y)]) (P2:=fun d=>d=.tup (t.decls.map encDc)) (ev_tupQ (mq (dcE (.tail _ m4)) mq_nil)) (ev_cell (p:=7) mh2 rfl hm.len hO.at_ (hkE m4) rfl) (by exact fun _ _ a b=>⟨_,_,a,b,by have:=hat.decs;simp;omega,rfl⟩))) (mq ev_int mq_nil))).to fun d e=>⟨_,_,hm.m.tame.set hO.at_ (hat.tame.dec (by have:=hat.decs;simp;exact q1 ‹_›) fun d hd=>by
     rcases List.mem_cons.mp hd with e | hd
     ·rw [e]
      exact ⟨by show (1:Nat)≤4;decide,fun f hf=>by
       have hf:f∈[y]:=hf
       rw [List.mem_singleton.mp hf];exact (hm.fine.okk y hy).2⟩
     ·exact hat.tame.decls.2 d hd),way5 hm.m hO.at_ hO.nm hy,e⟩) (by exact Nat.le_refl _)) fun v G' s' z q=>fin z q
 refine st_nil ?_
 refine st_ifD a noN c1 (p:=way=6) (wyT (i:=6)) (fun G2 s2 h6 c2=>?_) (fun G2 s2 h6 c2=>?_)
 ·
  refine st_tupB (xs:=["by_name","at"]) (P:=fun Ks=>∃ kA tA,OfN its "A" kA tA∧Ks=[dat w.params (.dct (entL (rowsS (sigsOf its)))),dat w.params (.int ((kA:Nat):Int))])
   (ρs:=fun Ks=>match Ks with | [k1,k2]=>T w ad cs B (bsR w ad its way [(some ("by_name" : Str),k1),(some ("at" : Str),k2)]) | _=>[]) a c2
   (trsO_cons (P1:=fun K=>∃ d,K=dat w.params d∧d=.dct (entL (rowsS (sigsOf its)))) (Ev.o (ev_byname hm.len hm.nl hm.fine.nd (by have:=hm.rl;exact q6 ‹_›) (evv_blt rfl (by rfl) rfl rfl rfl rfl) (evv_glob rfl (by rfl) rfl rfl) itE)) fun K v ⟨d1,e1,e2⟩=>
    trsO_cons (P1:=fun K=>∃ d,K=dat w.params d∧∃ kA tA,OfN its "A" kA tA∧d=.int ((kA:Nat):Int)) (EvO.under (Ev.o (ev_ofn hm.len hm.ok hm.kA hof itE ev_str))) fun K2 v2 ⟨d2,e3,kA,tA,e4,e5⟩=>trsO_nil ⟨kA,tA,e4,by rw [e1,e2,e3,e5]⟩) rfl rfl (Nat.le_of_ble_eq_true rfl) rfl
   (.inl ⟨.name (.inr ⟨rfl,rfl,rfl⟩) (.name (.inl rfl) .nil),rfl,rfl,?_⟩) ?_
  ·rintro Ks ⟨kA,tA,_,rfl⟩
   exact .cons (.skip (fun h=>nomatch h) (.skip (by decide) (.skip (by decide) (.skip (by decide) (.skip (by decide) .new))))) (.cons (.skip (fun h=>nomatch h) (.skip (by decide) (.skip (by decide) (.skip (by decide) (.skip (by decide) (.skip (by decide) .new)))))) .nil)
  rintro Ks G3 s3 ⟨kA,tA,hA,rfl⟩ c3
  have c3:St w (envBr L) G s [ad] (T w ad cs B (bsR w ad its way [(some ("by_name" : Str),dat w.params (.dct (entL (rowsS (sigsOf its))))),kR w "at" kA])) G3 s3:=c3
  have hatA:=hm.m.at_ hA.at_
  refine st_asgComp (n:=n+3) (Pds:=fun ds=>ds=(keys (rowsS (sigsOf its))).map .str) (P:=fun l=>l=((keys (rowsS (sigsOf its))).filter (isBelow (rowsS (sigsOf its)))).map .str) (cl:=[("by_name",L+1)]) _
   [(some ("by_name" : Str),dat w.params (.dct (entL (rowsS (sigsOf its)))))] (fun d=>[(some ("by_name" : Str),dat w.params (.dct (entL (rowsS (sigsOf its))))),(some ("one" : Str),dat w.params d)])
   (pB6 (rowsS (sigsOf its))) (fun d r=>r=d) (ρ':=fun al l=>T w ad cs B (bsR w ad its way [(some ("by_name" : Str),dat w.params (.dct (entL (rowsS (sigsOf its))))),kR w "at" kA,(some ("below" : Str),own w.params al l)])) a c3 c3
   (ite_lst (ev_name (d:=.lst ((keys (rowsS (sigsOf its))).map .str)) mh4 rfl) fun d h=>⟨_,h,rfl⟩)
   rfl (by decide) rfl (by decide) ?hcl ?hclp ?hcap ?hasg (fun d=>List.sublist_append_left [_] [_]) ?htest ?helt ?hP ?hu rfl rfl ?kb
  case hcl=>
   intro y cc h
   simp only [List.lookup_cons,List.lookup_nil] at h
   split at h
   ·cases h;exact ⟨"by_name",rfl⟩
   ·cases h
  case hclp=>simp
  case hcap=>exact .drop (.drop (.drop (.drop (.drop (.var (.inl rfl) rfl (by first | exact .inl rfl | exact .inr rfl) (.drop .nil))))))
  case hasg=>
   rintro C K1 K2 A E G₀ s₀ G s ds d v aa rfl hd hr cc
   exact st_name cc hr (.skip (fun h=>nomatch h) (.skip (fun h=>nomatch h) (.skip (by decide) .new))) rfl (.inl rfl) fun s' c'=>⟨_,c'⟩
  case htest=>
   rintro C K1 K2 ds d rfl hd
   obtain ⟨y,hy,rfl⟩:=List.mem_map.mp hd
   obtain ⟨ty,hty⟩:=look_of_mem hy
   exact .one (tr_below (n:=n+1) hm.clo hm.rl (hm.fine.okk y hy).1 hty (evv_glob rfl (by rfl) rfl rfl) (ev_name (d:=.dct (entL (rowsS (sigsOf its)))) mh2 rfl) (ev_name (d:=.str y) mh3 rfl) (ev_name (d:=.str y) mh3 rfl))
  case helt=>
   rintro C K1 K2 ds d rfl hd hpd
   exact ev_name mh3 rfl
  case hP=>
   rintro ds l rfl
   refine ⟨by have:=kl.2;exact q1 ‹_›,fun h=>?_⟩
   rw [all2_eq h,filter_pB6]
  case hu=>
   intro C al l
   exact .skip (fun e=>nomatch e) (.skip (fun e=>nomatch e) (.skip (by decide) (.skip (by decide) (.skip (by decide) (.skip (by decide) (.skip (by decide) (.skip (by decide) .new)))))))
  case kb=>
   rintro al _ G4 s4 rfl hnew c4
   obtain ⟨G5,c5⟩:=c4.frzH (.tail (.tail (.tail (.tail (.tail (.tail (.tail .head))))))) hnew
   have hfl:((keys (rowsS (sigsOf its))).filter (isBelow (rowsS (sigsOf its)))).length≤1000:=by
    have h1:=List.length_filter_le (isBelow (rowsS (sigsOf its))) (keys (rowsS (sigsOf its)))
    have h2:=kl.2
    rw [List.length_map] at h2
    exact q2 ‹_› ‹_›
   generalize hbl:(keys (rowsS (sigsOf its))).filter (isBelow (rowsS (sigsOf its)))=bl at c5 hfl
   have hbA:("A" : Str)∈bl:=by rw [← hbl];exact List.mem_filter.mpr ⟨hm.kA,isBelow_spec.mpr (.inl rfl)⟩
   with_reducible refine st_asg (P:=fun d=>d=encDc (d6 601)) (ρ':=fun d=>T w ad cs B (bsR w ad its way [(some ("by_name" : Str),dat w.params (.dct (entL (rowsS (sigsOf its))))),kR w "at" kA,(some ("below" : Str),dat w.params (.lst (bl.map .str))),(some ("first" : Str),dat w.params d)])) a noN c5 ?he ?hu2 ?hk ?hx ?kn (hs:=?hs)
   case he=>exact ev_d6
   case hu2=>exact fun d=>.skip (fun h=>nomatch h) (.skip (by decide) (.skip (by decide) (.skip (by decide) (.skip (by decide) (.skip (by decide) (.skip (by decide) (.skip (by decide) .new)))))))
   case hk=>rfl
   case hx=>exact .inl rfl
   case hs=>rfl
   rintro _ G6 s6 rfl c6
   have m6:∀ {q0 q1 q2 q3 q4 q5 q6:Option Str×Kd} {r:Rho},q6∈q0::q1::q2::q3::q4::q5::q6::r:=mh6
   have atE:∀ {ρ':Rho} {pos},(some ("at" : Str),dat w.params (.int (kA:Int)))∈ρ'→Ev w (envBr L) (n+3) [] ρ' (.Name "at" pos) (fun d=>d=.int (kA:Int)):=fun h=>ev_name h rfl
   have fiE:∀ {ρ':Rho} {pos},(some ("first" : Str),dat w.params (encDc (d6 601)))∈ρ'→Ev w (envBr L) (n+3) [] ρ' (.Name "first" pos) (fun d=>d=encDc (d6 601)):=fun h=>ev_name h rfl
   refine st_asg (P:=fun d=>d=.lst ((its.set kA (.sig {tA with decls:=tA.decls++[d6 601]})).map encI)) a noN c6 (ev_put (t':={tA with decls:=tA.decls++[d6 601]}) (p:=7) (x:=.tup ((tA.decls++[d6 601]).map encDc)) hm.len hA.at_ (by decide) rfl hpt itE (atE m6) ev_int
     (ev_add_tup (P1:=fun d=>d=.tup (tA.decls.map encDc)) (P2:=fun d=>d=.tup [encDc (d6 601)]) (ev_cell (p:=7) mh2 rfl hm.len hA.at_ (atE m6) rfl) (ev_tupQ (mq (fiE (.tail _ (.tail _ m6))) mq_nil)) (by exact fun _ _ a b=>⟨_,_,a,b,by have:=hatA.decs;simp;exact q1 ‹_›,by simp⟩)))
    (ρ':=fun d=>T w ad cs B (bsR w ad its way [(some ("by_name" : Str),dat w.params (.dct (entL (rowsS (sigsOf its))))),kR w "at" kA,(some ("below" : Str),dat w.params (.lst (bl.map .str))),(some ("first" : Str),dat w.params (encDc (d6 601))),(some ("bent" : Str),dat w.params d)]))
    (fun d=>.skip (fun h=>nomatch h) (.skip (by decide) (.skip (by decide) (.skip (by decide) (.skip (by decide) (.skip (by decide) (.skip (by decide) (.skip (by decide) (.skip (by decide) .new))))))))) rfl (.inl rfl) ?_
   rintro _ G7 s7 rfl c7
   have c7:St w (envBr L) G s [ad] (T w ad cs B (bsR w ad its way [(some ("by_name" : Str),dat w.params (.dct (entL (rowsS (sigsOf its))))),kR w "at" kA,(some ("below" : Str),dat w.params (.lst (bl.map .str))),(some ("first" : Str),dat w.params (encDc (d6 601))),(some ("bent" : Str),dat w.params (.lst ((its.set kA (.sig {tA with decls:=tA.decls++[d6 601]})).map encI)))])) G7 s7:=c7
   have hb1:0 < (bl.map D.str).length:=by rw [List.length_map];exact List.length_pos_of_mem hbA
   have hb2:(bl.map D.str).length≤1000:=by rw [List.length_map];exact hfl
   have hb3:∀ d∈bl.map D.str,∃ y,y∈keys (rowsS (sigsOf its))∧(y = "A"∨Above (rowsS (sigsOf its)) y "A")∧d=.str y:=fun d hd=>by
    obtain ⟨y,hy,rfl⟩:=List.mem_map.mp hd
    rw [← hbl] at hy
    exact ⟨y,(List.mem_filter.mp hy).1,isBelow_spec.mp (List.mem_filter.mp hy).2,rfl⟩
   refine st_asgT (B':=B+1) (P:=fun d=>∃ (k:Nat) (t:Sg) (y:Str),(y = "A"∨Above (rowsS (sigsOf its)) y "A")∧OfN its y k t∧d=.int ((k:Nat):Int)) a c7 (t_ofn (B:=B) (B':=B+1) (P:=fun y=>y = "A"∨Above (rowsS (sigsOf its)) y "A") hm.len hm.ok hof itE (t_pick (B:=B) (x:="below") (l:=bl.map .str) mh6 (.head _) rfl hdr hln hC (by exact q1 ‹_› : B≤100000) hb1 hb2 hb3))
    (ρ':=fun d=>bsR w ad its way [(some ("by_name" : Str),dat w.params (.dct (entL (rowsS (sigsOf its))))),kR w "at" kA,(some ("below" : Str),dat w.params (.lst (bl.map .str))),(some ("first" : Str),dat w.params (encDc (d6 601))),(some ("bent" : Str),dat w.params (.lst ((its.set kA (.sig {tA with decls:=tA.decls++[d6 601]})).map encI))),(some ("k" : Str),dat w.params d)])
    (fun d=>.skip (by decide) (.skip (by decide) (.skip (by decide) (.skip (by decide) (.skip (by decide) (.skip (by decide) (.skip (by decide) (.skip (by decide) (.skip (by decide) .new))))))))) rfl (.inl rfl) ?_
   rintro _ G8 s8 ⟨k,t,y,hya,hO,rfl⟩ c8
   have hat:=hm.m.at_ hO.at_
   obtain ⟨hk1,hR⟩:=way6 hm.m hA.at_ hA.nm hO.at_ hO.nm hya
   have tm1:Tame (its.set kA (.sig {tA with decls:=tA.decls++[d6 601]})):=hm.m.tame.set hA.at_ (hatA.tame.dec (by have:=hatA.decs;simp;exact q1 ‹_›) fun d hd=>by
    rcases List.mem_append.mp hd with hd | hd
    ·exact hatA.tame.decls.2 d hd
    ·rw [List.mem_singleton.mp hd];exact tame_d6 601)
   generalize its.set kA (.sig {tA with decls:=tA.decls++[d6 601]})=bt at hk1 hR tm1 c8
   have hf1:(f1 t).length≤3:=by have:=hat.decs;unfold f1;split<;>simp<;>exact q1 ‹_›
   have tm2:Tame (bt.set k (.sig {t with decls:=f1 t++[d6 602]})):=tm1.set hk1 (hat.tame.dec (by simp;exact q1 ‹_›) fun d hd=>by
    rcases List.mem_append.mp hd with hd | hd
    ·unfold f1 at hd
     rcases List.mem_append.mp hd with hd | hd
     ·exact hat.tame.decls.2 d hd
     ·split at hd
      ·rw [List.mem_singleton.mp hd];exact tame_d6 601
      ·cases hd
    ·rw [List.mem_singleton.mp hd];exact tame_d6 602)
   have hbt:bt.length≤1000:=by have:=tm1.len;exact q1 ‹_›
   have m9:∀ {q0 q1 q2 q3 q4 q5 q6 q7 q8 q9:Option Str×Kd} {r:Rho},q9∈q0::q1::q2::q3::q4::q5::q6::q7::q8::q9::r:=mh9
   have bnE:∀ {ρ':Rho} {pos},(some ("bent" : Str),dat w.params (.lst (bt.map encI)))∈ρ'→Ev w (envBr L) (n+3) [] ρ' (.Name "bent" pos) (fun d=>d=.lst (bt.map encI)):=fun h=>ev_name h rfl
   have hkE:∀ {ρ':Rho} {pos},(some ("k" : Str),dat w.params (.int (k:Int)))∈ρ'→Ev w (envBr L) (n+3) [] ρ' (.Name "k" pos) (fun d=>d=.int (k:Int)):=fun h=>ev_name h rfl
   have hput:∀ {p1 p2 p3 p4 p5 k1 k2 k3 k4 k5 k6 k7 k8 k9 k10 k11 k12 q1 q2 q3 q4 q5 q6 q7 q8 q9 q10 q11 q12} {ρ':Rho},(some ("bent" : Str),dat w.params (.lst (bt.map encI)))∈ρ'→(some ("k" : Str),dat w.params (.int (k:Int)))∈ρ'→Ev w (envBr L) (n+3) [] ρ' (.BinOp (.Subscript (.Subscript (.Name "bent" p1) (.Name "k" p2) p3) (.Constant (.int 7) k1 p4) p5) .Add (.Tuple [.Tuple [.Constant (.int 602) k2 q1,.Constant (.bool false) k3 q2,.Tuple [.Constant (.str "h") k4 q3] k5 q4,.Constant (.str "") k6 q5,.Tuple [.Constant (.str "name") k7 q6,.Constant (.int 0) k8 q7,.Constant (.str "A") k9 q8] k10 q9] k11 q10] k12 q11) q12) (fun d=>d=.tup ((f1 t++[d6 602]).map encDc)):=by
    intro p1 p2 p3 p4 p5 k1 k2 k3 k4 k5 k6 k7 k8 k9 k10 k11 k12 q1 q2 q3 q4 q5 q6 q7 q8 q9 q10 q11 q12 ρ' m1 m2
    with_reducible refine ev_add_tup (P1:=fun d=>d=.tup ((f1 t).map encDc)) (P2:=fun d=>d=.tup [encDc (d6 602)]) ?_ ?_ ?_
    ·exact ev_cell (p:=7) (t:={t with decls:=f1 t}) m1 rfl hbt hk1 (hkE m2) rfl
    ·with_reducible refine ev_tupQ ?_ ?_ ?_
     ·with_reducible refine mq ?_ mq_nil
      exact ev_d6
     ·rfl
     ·simp
    ·rintro _ _ rfl rfl;exact ⟨_,_,rfl,rfl,by simp;omega,by simp⟩
   exact st_retT (B':=B+2) (P:=BentD) a c8 (t_pure ((ev_tupQ (mq (ev_put (t:={t with decls:=f1 t}) (t':={t with decls:=f1 t++[d6 602]}) (p:=7) (x:=.tup ((f1 t++[d6 602]).map encDc)) hbt hk1 (by decide) rfl hpt (bnE m9) (hkE (.tail _ m9)) ev_int (hput m9 (.tail _ m9))) (mq ev_int mq_nil))).to fun d e=>⟨_,_,tm2,hR,e⟩) (by exact q9)) fun v G' s' z q=>fin z q
 refine st_nil ?_
 obtain ⟨i,rfl⟩:∃ i,way=7+i:=⟨way - 7,by omega⟩
 have hi:i < 4:=by omega
 with_reducible refine st_asg (P:=fun d=>d=.tup (lateT i)) (ρ':=fun d=>T w ad cs B (bsR w ad its (7+i) [(some ("late" : Str),dat w.params d)])) a noN c2 ?he7 ?hu7 ?hk7 ?hx7 ?kn7 (hs:=?hs7)
 case hu7=>exact fun d=>.skip (fun h=>nomatch h) (.skip (by decide) (.skip (by decide) (.skip (by decide) (.skip (by decide) .new))))
 case hk7=>rfl
 case hx7=>exact .inl rfl
 case hs7=>rfl
 case he7=>
  with_reducible refine ev_sub_lst (P1:=fun d=>d=.lst lateL) (P2:=fun d=>d=.int (i:Int)) ?e1 ?e2 ?e3 (hns:=?e4)
  case e1=>
   with_reducible refine ev_listQ ?l1 ?l2 ?l3
   case l1=>
    with_reducible refine mq ?_ (mq ?_ (mq ?_ (mq ?_ mq_nil)))
    ·exact ev_tupQ (mq ev_str (mq (ev_tupQ (mq ev_str mq_nil)) (mq ev_str mq_nil)))
    ·exact ev_tupQ (mq ev_str (mq (ev_tupQ (mq ev_str mq_nil)) (mq ev_str mq_nil)))
    ·exact ev_tupQ (mq ev_str (mq (ev_tupQ (mq ev_str mq_nil)) (mq ev_str mq_nil)))
    ·exact ev_tupQ (mq ev_str (mq (ev_tupQ (mq ev_str (mq ev_str mq_nil))) (mq ev_str mq_nil)))
   case l2=>rfl
   case l3=>simp
  case e2=>exact ev_sub_int (P1:=fun d=>d=.int ((7+i:Nat):Int)) (P2:=fun d=>d=.int 7) wyE ev_int (by rintro _ _ rfl rfl;refine ⟨_,_,rfl,rfl,?_⟩;congr 1;omega)
  case e3=>rintro _ _ rfl rfl;exact ⟨_,_,_,rfl,rfl,by simp,by exact qd,lateL_at hi,rfl⟩
  case e4=>intro _ _ _ h;cases h
 rintro _ G3 s3 rfl c3
 refine st_asgT (B':=B+1) (P:=fun d=>∃ r:Nat,r < its.length+1∧d=.int r) a c3 (t_draw (.head _) rfl hdr hC (by exact q1 ‹_›) (ev_add_int (P1:=fun d=>d=.int (its.length:Int)) (P2:=fun d=>d=.int 1) (ev_lenS (P1:=fun l=>l=its.map encI) hln (evs_lst itE fun d h=>⟨_,h,rfl⟩) rfl (by rintro _ rfl;exact ⟨by simp;exact q5 ‹_›,by simp⟩)) ev_int (by exact fun _ _ a b=>⟨_,_,a,b,its.length+1,by omega,by simp,fun r hr=>⟨r,hr,rfl⟩⟩)))
  (ρ':=fun d=>bsR w ad its (7+i) [(some ("late" : Str),dat w.params (.tup (lateT i))),(some ("at" : Str),dat w.params d)]) (fun d=>.skip (by decide) (.skip (by decide) (.skip (by decide) (.skip (by decide) (.skip (by decide) .new))))) rfl (.inl rfl) ?_
 rintro _ G4 s4 ⟨r,hr,rfl⟩ c4
 have atE:∀ {ρ':Rho} {pos},(some ("at" : Str),dat w.params (.int (r:Int)))∈ρ'→Ev w (envBr L) (n+3) [] ρ' (.Name "at" pos) (fun d=>d=.int (r:Int)):=fun h=>ev_name h rfl
 have ltE:∀ {ρ':Rho} {pos},(some ("late" : Str),dat w.params (.tup (lateT i)))∈ρ'→Ev w (envBr L) (n+3) [] ρ' (.Name "late" pos) (fun d=>d=.tup (lateT i)):=fun h=>ev_name h rfl
 have m4:∀ {q0 q1 q2 q3 q4 q5:Option Str×Kd} {r:Rho},q5∈q0::q1::q2::q3::q4::q5::r:=mh5
 have hrow:(its.map encI).take r++[encI (.opn (lateO i))]++(its.map encI).drop r=(its.take r++[Im.opn (lateO i)]++its.drop r).map encI:=by simp [List.map_take,List.map_drop]
 refine st_asg (P:=fun d=>d=.lst ((its.take r++[Im.opn (lateO i)]++its.drop r).map encI)) a noN c4 (EvL.eqD (evl_add (P1:=fun l=>l=(its.map encI).take r++[encI (.opn (lateO i))]) (P2:=fun l=>l=(its.map encI).drop r) (P:=fun l=>l=(its.take r++[Im.opn (lateO i)]++its.drop r).map encI)
   (EvL.evs (evl_add (P1:=fun l=>l=(its.map encI).take r) (P2:=fun l=>l=[encI (.opn (lateO i))]) (EvL.evs (evl_sliceS (P1:=fun l=>l=its.map encI) (P2:=fun o=>o=none) (P3:=fun o=>o=some (r:Int)) (evs_lst itE fun d h=>⟨_,h,rfl⟩) (.none rfl) (.some ((atE (.tail _ m4)).to fun d e=>⟨_,e,rfl⟩)) (by rintro _ _ _ rfl rfl rfl;exact ⟨by simp;exact q5 ‹_›,pick_hi (by simp;omega)⟩)))
    (EvL.evs (evl_listQ (mq (ev_add_tup (P1:=fun d=>d=.tup [.str "open",.int 700]) (P2:=fun d=>d=.tup (lateT i)) (P:=fun d=>d=encI (.opn (lateO i))) (ev_tupQ (mq ev_str (mq ev_int mq_nil))) (ltE m4) (by exact fun _ _ a b=>⟨_,_,a,b,by simp [lateT],late_enc hi⟩)) mq_nil))) (by rintro _ _ rfl rfl;exact ⟨by simp;omega,rfl⟩)))
   (EvL.evs (evl_sliceS (P1:=fun l=>l=its.map encI) (P2:=fun o=>o=some (r:Int)) (P3:=fun o=>o=none) (evs_lst itE fun d h=>⟨_,h,rfl⟩) (.some ((atE (.tail _ m4)).to fun d e=>⟨_,e,rfl⟩)) (.none rfl) (by rintro _ _ _ rfl rfl rfl;exact ⟨by simp;exact q5 ‹_›,pick_lo (by simp;omega)⟩)))
   (by rintro _ _ rfl rfl;exact ⟨by simp;omega,hrow⟩)))
  (ρ':=fun d=>T w ad cs (B+1) (bsR w ad its (7+i) [(some ("late" : Str),dat w.params (.tup (lateT i))),kR w "at" r,(some ("bent" : Str),dat w.params d)])) (fun d=>.skip (fun h=>nomatch h) (.skip (by decide) (.skip (by decide) (.skip (by decide) (.skip (by decide) (.skip (by decide) (.skip (by decide) .new))))))) rfl (.inl rfl) ?_
 rintro _ G5 s5 rfl c5
 have bnE:∀ {ρ':Rho} {pos},(some ("bent" : Str),dat w.params (.lst ((its.take r++[Im.opn (lateO i)]++its.drop r).map encI)))∈ρ'→Ev w (envBr L) (n+3) [] ρ' (.Name "bent" pos) (fun d=>d=.lst ((its.take r++[Im.opn (lateO i)]++its.drop r).map encI)):=fun h=>ev_name h rfl
 exact st_retT (B':=B+2) (P:=BentD) a c5 (t_pure ((ev_tupQ (mq (bnE (.tail _ (.tail _ m4))) (mq (ev_if (P1:=fun b=>b=(decide (7+i=8)&&decide (r < its.length))) (P:=fun d=>d=.int (if i=1∧r < its.length then 90 else 700))
   (tr_and' (P1:=fun b=>b=decide (7+i=8)) (P2:=fun b=>b=decide (r < its.length)) (wyT (i:=8)) (fun _=>tr_lt (atE (.tail _ m4)) (ev_lenS (P1:=fun l=>l=its.map encI) (P:=fun d=>d=.int (its.length:Int)) hln (evs_lst itE fun d h=>⟨_,h,rfl⟩) rfl (by rintro _ rfl;exact ⟨by simp;exact q5 ‹_›,by simp⟩)) (by rintro _ _ rfl rfl;refine ⟨_,_,rfl,rfl,?_⟩;rw [Bool.eq_iff_iff];simp)) (by rintro a b rfl h;cases h1:decide (7+i=8) with | true=>rw [h h1] | false=>rfl))
   (fun h=>ev_int.to fun d e=>by
    have h:=(Bool.and_eq_true_iff.mp h.symm)
    have a1:7+i=8:=by simpa using h.1
    have a2:r < its.length:=by simpa using h.2
    rw [e,if_pos ⟨by omega,a2⟩])
   (fun h=>ev_int.to fun d e=>by
    rw [e,if_neg]
    rintro ⟨a1,a2⟩
    rw [decide_eq_true (by omega:7+i=8),decide_eq_true a2] at h
    cases h)) mq_nil))).to fun d e=>⟨_,_,hm.m.tame.insO (by exact q5 ‹_›) (tame_late i) r,way7 hm.m (by omega) hi,e⟩) (by exact q9)) fun v G' s' z q=>fin z q
end Mine
end
section
namespace Mine
variable {w:World} {env:Env} {n:Nat} {N:List Addr} {ρ:Rho} {ad:Addr} {cs:List D} {B B' B'':Nat} {its:List Im}
noncomputable def scK (w:World) (a:Addr) (vs:List Value) (ds:List D):Kd:=
 ⟨fun v G _=>v=.ref a∧(∃ o,G a=some o∧o.cls=.type "list"∧∃ m,o.data=.seq vs.toArray m)∧RepL w.params G vs ds,[],[],fun hl _ ⟨e,⟨o,h1,h2,h3⟩,r⟩=>⟨e,⟨o,hl _ _ h1,h2,h3⟩,r.mono hl⟩⟩
inductive KI (w:World) (ds:List D) (v:Value) (G:Fz) (s:Shared):Prop
 | mk (a:Addr) (vs:Array Value):v=.ref a→s.heap.IsList a vs→RepL w.params G vs.toList ds→KI w ds v G s
theorem KI.step {ds:List D}:∀ v G (s:Shared) G' s',KI w ds v G s→Step G s [] G' s'→KI w ds v G' s':=fun _ _ _ _ _ ⟨a,vs,h1,⟨o,h2,h3⟩,h4⟩ y=>⟨a,vs,h1,⟨o,y.keep _ _ (fun h=>nomatch h) h2,h3⟩,h4.mono y.le⟩
theorem ev_script {x:Str} {pos:Pos} {a:Addr} {vs:List Value} {ds:List D} (h:(some x,scK w a vs ds)∈ρ) (hk:env.scope.kind=.function) (hd:(x==("__debug__" : Str))=false:=by decide) (hc:(x==("__classdict__" : Str))=false:=by decide) :
  EvK w env n N ρ (.Name x pos) (fun _=>KI w ds):=(evk_name h hk hd hc).mono fun _ v G s i ⟨e,⟨o,h1,h2,m,h3⟩,r⟩=>⟨a,vs.toArray,e,⟨o,i _ _ h1,h2,m,h3⟩,by simpa using r⟩
theorem evl_sliceI {value:PySem.Expr} {lo hi:Option PySem.Expr} {sp pos} {ds:List D} {P:List D→Prop} {P2 P3:Option Int→Prop} (hl:EvK w env n [] ρ value (fun _=>KI w ds)) (h1:PEv w env n [] ρ lo P2) (h2:PEv w env n [] ρ hi P3)
  (h:∀ a b,P2 a→P3 b→ds.length≤1000000∧P (pick ds a b)):EvL w env n [] ρ (.Subscript value (.Slice lo hi none sp) pos) P:=
 evk_sub hl (evk_slice h1 h2 (.none (P:=fun o=>o=none) rfl)) KI.step (fun _ _ _ _ _ x h=>x.early h) fun G s v1 v2 i _ ⟨a,vs,e1,hg,r⟩ ⟨sl,vl,vu,vk,o1,o2,o3,e2,hs,i1,i2,i3,q1,q2,q3⟩=>by
  subst e1;subst e2;subst q3
  obtain ⟨hb,hp⟩:=h _ _ q1 q2
  have hlen:=r.arr
  refine fun A Q E _ k=>PyProof.Rows.tail_any (T:="list") hg.typeIs slot_list_getitem.lookup (wpAny_getItem_list_slice hg hs i1 i2 i3 (by simp) ?_ (by rw [sizeLine_eq];exact qk ‹_› ‹_›)) subscripted_slice
  have hgn:G s.heap.objs.size=none:=by
   cases q:G s.heap.objs.size with
   | none=>rfl
   | some o=>have:=i _ _ q;rw [fresh_size] at this;cases this
  refine k _ G _ (Step.push i _ s.toks) ⟨_,_,0,_,rfl,fresh_size _,hgn,Heap.get?_push_size _ rfl,?_,hp⟩
  rw [kms_pick_eq]
  exact r.pick _ _
inductive KTp (w:World) (P:List D→Prop) (s:Shared) (v:Value) (G':Fz) (s':Shared):Prop
 | mk (ad:Addr) (cs:List D):v=.ref ad→s.heap.get? ad=none→G' ad=none→DctAt w G' s'.heap ad (tp cs 0)→P cs→KTp w P s v G' s'
theorem ev_tapeD {e1:PySem.Expr} {k1 k2 k3 p1 p2 p3 pos} {P:List D→Prop} (he:EvL w env n [] ρ e1 P)
  (hshape:((evalEachOpt [some (.Constant (.str "cells") k1 p1),some (.Constant (.str "spot") k2 p2)] env).zip ((evalEach [e1,.Constant (.int 0) k3 p3] env).map fun v=>do let x←v;standAt pos;pure x))=[((eval (.Constant (.str "cells") k1 p1) env:Sem Value),(do let x←eval e1 env;standAt pos;pure x:Sem Value)),(eval (.Constant (.str "spot") k2 p2) env,(do let x←eval (.Constant (.int 0) k3 p3) env;standAt pos;pure x:Sem Value))].map fun p=>(some p.1,p.2):=by rfl) :
  EvK w env n [] ρ (.Dict [some (.Constant (.str "cells") k1 p1),some (.Constant (.str "spot") k2 p2)] [e1,.Constant (.int 0) k3 p3] pos) (KTp w P):=fun A G₀ s₀ M G s Q E a b c k=>by
 refine wpAny_Dict_pairs (knd:=sk w) hshape (by simp) (by simp) ?_
 have y0:Step G s [] G {s with heap:=s.heap.push {cls:=.type "dict",data:=.dict #[]}}:=Step.push c.step.inn (dctO #[] 0) s.toks
 generalize hdd:s.heap.objs.size=d
 have nD:s.heap.get? d=none:=by rw [← hdd];exact fresh_size _
 have gD:G d=none:=by
  cases q:G d with
  | none=>rfl
  | some o=>have:=c.step.inn _ _ q;rw [nD] at this;cases this
 have hD0:({s with heap:=s.heap.push {cls:=.type "dict",data:=.dict #[]}}:Shared).heap.get? d=some (dctO #[] 0):=by rw [← hdd];exact Heap.get?_push_size _ rfl
 generalize ({s with heap:=s.heap.push {cls:=.type "dict",data:=.dict #[]}}:Shared)=s0 at y0 hD0 ⊢
 have c0:=c.pure y0
 refine evalPairs_cons (ev_str A G₀ s₀ M G s0 _ E a noN c0 fun v1 G1 s1 y1 z1 ⟨d1,r1,e1'⟩=>wpAny_bind (he.ev A G₀ s₀ M G1 s1 _ E a noN z1 fun v2 G2 s2 y2 z2 ⟨d2,r2,l,e2',p⟩=>wpAny_bind (wpAny_standAt (wpAny_pure (evalPairs_cons (ev_str A G₀ s₀ M G2 s2 _ E a noN z2 fun v3 G3 s3 y3 z3 ⟨d3,r3,e3'⟩=>wpAny_bind (ev_int A G₀ s₀ M G3 s3 _ E a noN z3 fun v4 G4 s4 y4 z4 ⟨d4,r4,e4'⟩=>wpAny_bind (wpAny_standAt (wpAny_pure (evalPairs_nil ?_))))))))))
 subst e1' e2' e3' e4'
 obtain ⟨_,rfl⟩:=r1.inv;obtain ⟨_,rfl⟩:=r3.inv
 have ys:Step G s0 [] G4 s4:=((y1.trans y2 fun _ h=>nomatch h).trans y3 fun _ h=>nomatch h).trans y4 fun _ h=>nomatch h
 have yy:Step G s [] G4 s4:=y0.trans ys fun _ h=>nomatch h
 have hD4:=ys.keep d _ (fun h=>nomatch h) hD0
 have g4:G4 d=none:=ys.out gD (by rw [hD0];exact fun h=>nomatch h)
 refine ⟨[("cells",v2),("spot",v4)],⟨strKind_is pw w _ _,rfl,strKind_is pw w _ _,rfl,trivial⟩,⟨_,#[],0,hD4,⟨rfl,rfl,rfl⟩,rfl,(fun e he=>by simp at he),.nil,.nil⟩,fun h' hm hs=>?_⟩
 have kp:∀ b o,b≠d→s4.heap.get? b=some o→h'.get? b=some o:=fun b o hb e=>(hs.2 b hb).trans e
 have yf:=yy.lose nD g4 kp (s4.toks+2)
 refine k _ G4 _ yf (c.pure yf) ⟨d,l,rfl,nD,g4,⟨[("cells",v2),("spot",v4)],?_,.cons ((r2.mono y3.le).mono y4.le) (.cons r4 .nil)⟩,p⟩
 have hmm:merged ([]:List (Str×Value)) [(("cells" : Str),v2),(("spot" : Str),v4)]=[(("cells" : Str),v2),(("spot" : Str),v4)]:=merged_nil_of_nodup _ (by show (["cells","spot"]:List Str).Nodup;decide)
 rw [hmm] at hm
 exact hm
theorem st_tape {x:Str} {e:PySem.Expr} {px pos:Pos} {rest:List Stmt} {P:List D→Prop} {ρ':Addr→Rho} {A:Around} {G₀ G:Fz} {s₀ s:Shared} {M:List Addr} {Q:Flow→Shared→Prop} {E:Value→Shared→Prop} (a:AOK n A) (c:St w env G₀ s₀ M ρ G s) (he:EvK w env n [] ρ e (KTp w P))
  (hu:∀ ad,Upd x (dat w.params (.adr ad)) ρ (ρ' ad)) (hk:env.scope.kind=.function) (hx:env.kindOf x=some .local)
  (k:∀ ad cs G' s',P cs→St w env G₀ s₀ M (T w ad cs 0 (ρ' ad)) G' s'→wpAny (model pw w) A (execs rest env) Q E s') (hs:swapsWith e (some (.Name x px)) pos.line env=pure false:=by rfl) :
  wpAny (model pw w) A (execs (.Assign [.Name x px] e pos::rest) env) Q E s:=
 wpAny_execs_cons (wpAny_Assign_Name (he A G₀ s₀ M G s _ E a noN c fun v G' s' y z ⟨ad,cs,e1,n1,g1,hd,p⟩=>by
  subst e1
  have hex:s'.heap.get? ad≠none:=by
   obtain ⟨_,⟨o,es,ep,h1,_⟩,_⟩:=hd
   rw [h1];exact fun h=>nomatch h
  have c1:St w env G₀ s₀ M ((none,tapeN w ad cs 0)::ρ) G' s':=c.keepO (v:=.none) (K:=tapeN w ad cs 0) y.dom z ⟨0,Nat.le_refl _,hd⟩ (fun b hb=>by rw [List.mem_singleton.mp hb];exact ⟨hex,n1⟩) (fun b hb=>by rw [List.mem_singleton.mp hb];exact ⟨by show ad∈[ad];simp,g1⟩)
  exact c1.store hk (.inl hx) (.skip (fun h=>nomatch h) (hu ad)) (Rep.adr ad) (fun _ h=>nomatch h) (fun _ h=>nomatch h) (fun q _ _=>⟨(fun _ h=>nomatch h),(fun _ _ h=>nomatch h)⟩) fun s2 c2=>k ad cs G' s2 p c2) hs)
theorem t_callF {fe:PySem.Expr} {pos:Pos} {args:List PySem.Expr} {fa:Addr} {fd:FuncData} {body:List Stmt} {ts:List (Bool×Sem Value)} {PA:List D→Prop} {P:D→Prop} {PF:List D→D→Prop} (ff:FnFacts w fa fd body)
  (hf:EvV w env n [] (T w ad cs B ρ) fe (.ref fa)) (ha:Trs w env n [] (T w ad cs B ρ) ts PA) (ht:backTo pos (starEach args env)=ts) (hts:∃ e r,ts=(false,e)::r)
  (hop:OpT w n ad cs B B' fa PA PF) (hP:∀ ds d,PA ds→PF ds d→P d)
  (hc:eval (.Call fe args [] pos) env=(eval fe env >>= fun f=>callWith pos f [] (backTo pos (starEach args env)) (backToKw pos (keywordEach [] env))):=by rfl):EvT w env n ad cs ρ B B' (.Call fe args [] pos) P:=fun A G₀ s₀ M G s Q E a c k=>by
 rw [hc]
 refine wpAny_bind (hf A G₀ s₀ M G s _ E a noN c fun v G1 s1 y1 z1 e=>?_)
 subst e
 obtain ⟨e0,r0,rfl⟩:=hts
 rw [ht]
 refine callWith_function_kw (Calls.evalArgs_plain (ha A G₀ s₀ M G1 s1 _ E a noN z1 fun vs G2 s2 ds y2 z2 r p hl=>⟨⟨z2.bs.K _ _ ff.at_,rfl⟩,?_⟩))
 refine hop G2 s2 vs ds A _ _ a z2.step.inn z2.HFG r p (z2.vars _ (.head _)) (z2.ows _ (.head _) ad (by show ad∈[ad];simp)).2.1 fun v G3 s3 y3 ht ⟨d,r,q⟩=>?_
 exact k v G3 s3 ((y1.tp.tn y2).tt y3) (z2.rpl y3 (.chg (K':=tapeN w ad cs B') rfl rfl ht Rpl.rest) fun a h=>List.mem_append_left _ h) ⟨d,r,hP _ _ p q⟩
theorem evv_if {t x r pos} {v:Value} {b0:Bool} (ht:Tr w env n N ρ t (fun b=>b=b0)) (h1:b0=true→EvV w env n N ρ x v) (h2:b0=false→EvV w env n N ρ r v):EvV w env n N ρ (.IfExp t x r pos) v:=
 evk_if (fun _ _ _ _ _ x _=>x) ht (fun h=>h1 h.symm) (fun h=>h2 h.symm)
theorem st_tupDT {elts:List PySem.Expr} {e:PySem.Expr} {kk tpos pos} {rest:List Stmt} {xs:List Str} {P:List D→Prop} {A:Around} {G₀ G:Fz} {M:List Addr} {s₀ s:Shared} {Q:Flow→Shared→Prop} {E:Value→Shared→Prop} {ρs:List D→Rho}
  (a:AOK n A) (c:St w env G₀ s₀ M (T w ad cs B ρ) G s) (he:EvT w env n ad cs ρ B B' e (fun d=>∃ l,d=.tup l∧P l)) (hk:env.scope.kind=.function) (hu:∀ l,P l→UpdL w.params xs l (T w ad cs B' ρ) (ρs l))
  (r1:Stores w env xs ((assignEach elts env).map (·.2))) (r2:(assignEach elts env).findIdx? (·.1)=none) (hl:∀ l,P l→(assignEach elts env).length=l.length)
  (k:∀ l G' s',P l→St w env G₀ s₀ M (ρs l) G' s'→wpAny (model pw w) A (execs rest env) Q E s')
  (hs:swapsWithSole [.Tuple elts kk tpos] e pos.line env=pure false:=by rfl) (hw:swappedStores [.Tuple elts kk tpos] e env=pure none:=by rfl) :
  wpAny (model pw w) A (execs (.Assign [.Tuple elts kk tpos] e pos::rest) env) Q E s:=
 wpAny_execs_cons (Assign_Tuple (he A G₀ s₀ M G s _ E a c fun v G1 s1 y1 z1 ⟨d,r,l,e1,p⟩=>by
  subst e1
  exact asg_tup a.2.2 z1 r hk (hu l p) r1 r2 (hl l p) fun s' c'=>k l G1 s' p c') hs hw)
theorem St.kp {G₀ G:Fz} {s₀ s s':Shared} {M:List Addr} (c:St w env G₀ s₀ M ρ G s) (hc:env.cells=[]) (hs:Same s s') (k:Kp [env.locals] [] s.heap s'.heap):St w env G₀ s₀ M ρ G s':=by
 have kk:∀ b o,b≠env.locals→s.heap.get? b=some o→s'.heap.get? b=some o:=fun b o hb e=>by
  obtain ⟨sl,h1,h2⟩:=k b o e (fun h=>nomatch h)
  have:=h2 fun hm=>hb (List.mem_singleton.mp hm)
  subst this
  exact h1
 have dom:∀ b,s.heap.get? b≠none→s'.heap.get? b≠none:=fun b hb=>by
  obtain ⟨o,ho⟩:=Option.ne_none_iff_exists'.mp hb
  obtain ⟨sl,h1,_⟩:=k b o ho (fun h=>nomatch h)
  rw [h1];exact fun h=>nomatch h
 have cl:∀ x cc,env.cells.lookup x≠some cc:=fun x cc e=>by rw [hc] at e;cases e
 exact {
  step:=⟨by obtain ⟨h,tk,e⟩:=c.step.same;exact Same.trans ⟨h,tk,e⟩ hs,c.step.le,fun b o e=>kk b o (fun q=>by rw [q,c.GL] at e;cases e) (c.step.inn b o e),c.step.new,fun b o hb e=>kk b o (fun q=>by have:=c.newL;rw [q,this] at e;cases e) (c.step.keep b o hb e),fun b e=>dom b (c.step.dom b e)⟩
  base:=c.base
  fr:=by obtain ⟨m,hm⟩:=c.fr;exact ⟨m,k.ns hm⟩
  newL:=c.newL
  GL:=c.GL
  cell:=fun x cc e=>(cl x cc e).elim
  apart:=c.apart
  cnew:=c.cnew
  vars:=fun q hq=>by
   obtain ⟨nm,K⟩:=q
   have hh:=c.vars _ hq
   have kf:∀ b∈K.fp,∀ o,s.heap.get? b=some o→s'.heap.get? b=some o:=fun b hb o e=>kk b o (c.fps _ hq b hb).2.1 e
   cases nm with
   | none=>exact K.st Le.rfl kf hh
   | some y=>
    obtain ⟨v,hv,hp⟩:=hh
    refine ⟨v,?_,K.st Le.rfl kf hp⟩
    rcases hv with ⟨hl,m,hm,hy⟩ | ⟨_,cc,e,_⟩
    ·exact .inl ⟨hl,m,k.ns hm,hy⟩
    ·exact (cl _ _ e).elim
  fps:=fun q hq b hb=>let ⟨h1,h2,h3⟩:=c.fps q hq b hb;⟨dom b h1,h2,h3⟩
  ows:=c.ows
  sep:=c.sep}
theorem HF.mono {h h':Heap} (F:HF w h) (k:∀ b o,h.get? b=some o→h'.get? b=some o):HF w h' where
 K:=F.K.keeps k
 codes:=fun c hc=>(F.codes c hc).keeps k
 nolimit:=by obtain ⟨mc,h1,h2⟩:=F.nolimit;exact ⟨mc,h1.keeps k,h2⟩
 nodig:=by obtain ⟨mc,h1,h2⟩:=F.nodig;exact ⟨mc,h1.keeps k,h2⟩
 blt:=by obtain ⟨mb,h1,h2⟩:=F.blt;exact ⟨mb,h1.keeps k,h2⟩
end Mine
end
section
namespace Mine
variable {w:World} {env:Env} {n:Nat} {N:List Addr} {ρ:Rho} {ad:Addr} {cs:List D} {B B' B'':Nat} {its:List Im}
theorem fN_ok {k j:Nat} (hk:k < 4) (hj:j < 2):PyData.strOk (fN "f" k j)=true∧PyData.strOk (fN "g" k j)=true:=by
 have H:∀ k,k < 4→∀ j,j < 2→PyData.strOk (fN "f" k j)=true∧PyData.strOk (fN "g" k j)=true:=by decide +kernel
 exact H k hk j hj
theorem ev_taken {e:PySem.Expr} {np pos:Pos} (hm:Md its) (hf:EvV w env (n+9) [] ρ (.Name "_law_taken" np) (.ref 319)) (he:Ev w env (n+9) [] ρ e (fun d=>d=.lst (its.map encI))) (ht:backTo pos (starEach [e] env)=[(false,eval e env)]:=by rfl) :
  Ev w env (n+9) [] ρ (.Call (.Name "_law_taken" np) [e] [] pos) (fun d=>d=.bool true):=
 evk_call (PA:=fun l=>l=[.lst (its.map encI)]) ff_taken hf (trs1 he (fun _ h=>by rw [h])) ht ⟨_,_,rfl⟩ (fun _ _ _ _ _ x _=>x) (fun G s vs ds i b r p=>by
  subst p
  exact c_taken hm.m.tame hm.m.taken hm.kA hm.m.four.1.noZ.1 hm.rl (fun f hf=>by
   obtain ⟨k,j,hk,hj,_,hfx,_⟩:=own_at hm.m.four.1 hf
   rcases hfx with e | e<;>rw [e]
   ·exact (fN_ok hk hj).1
   ·exact (fN_ok hk hj).2) i b r)
theorem Tr.to {e:PySem.Expr} {P P':Bool→Prop} (h:Tr w env n N ρ e P) (k:∀ b,P b→P' b):Tr w env n N ρ e P':=fun A G₀ s₀ M G s Q E a b c kk=>h A G₀ s₀ M G s Q E a b c fun v G' s' y z p=>kk v G' s' y z (k v p)
theorem pick_mem {α:Type} {l:List α} {a b:Option Int}:(pick l a b).Sublist l:=(List.take_sublist _ _).trans (List.drop_sublist _ _)
theorem all2_nat {xs l:List D} (h:All2 (fun _ r=>natD r) xs l):∀ d∈l,natD d:=by
 induction h with
 | nil=>exact fun d h=>nomatch h
 | cons h _ ih=>exact fun d hd=>(List.mem_cons.mp hd).elim (fun e=>e▸h) (ih d)
noncomputable def envLw (L:Addr):Env:=callEnvC (lawFd 24 "law" 352) L 353
noncomputable def lwR (w:World) (ad:Addr) (its:List Im) (tl:Rho):Rho:=
 (some ("tape" : Str),dat w.params (.adr ad))::(some ("items" : Str),dat w.params (.lst (its.map encI)))::(some ("names" : Str),dat w.params (.lst ((keys (rowsS (sigsOf its))).map .str)))::tl
noncomputable def nmD:D→D
 | .tup (x::_)=>x
 | d=>d
noncomputable def imD:D→D
 | .tup (_::x::_)=>x
 | d=>d
set_option maxHeartbeats 2000000 in
theorem law_body {L a0:Addr} {vs:List Value} {ds:List D} {A:Around} {G:Fz} {s s₁:Shared} {Q:Flow→Shared→Prop} {E:Value→Shared→Prop} (a:AOK (n+9) A) (hA:A.frames=some [envLw L]) (c:St w (envLw L) G s [] [(some ("script" : Str),scK w a0 vs ds)] G s₁)
  (hds:∀ d∈ds,∃ z:Int,d=.int z) (hlen:ds.length≤63) (kk:∀ v G' s',Step G s [] G' s'→KD w (fun d=>d=.bool true) v G' s'→Q (.ret v) s'):wpAny (model pw w) A (execs (fnAt 24).2.1 (envLw L)) Q E s₁:=by
 refine st_tape (P:=Cs) a c (ev_tapeD (evl_comp1 (Pds:=fun l=>l.Sublist ds) (cl:=[]) [] (fun d=>[(some ("cell" : Str),dat w.params d)]) (fun _=>true) (fun _ r=>natD r)
   (ite_lst (EvL.ev (evl_sliceI (P:=fun l=>l.Sublist ds) (P2:=fun o=>o=none) (P3:=fun o=>o=some 60) (ev_script (.head _) rfl) (.none rfl) (.some (ev_int.to fun d e=>⟨_,e,rfl⟩)) (by rintro _ _ rfl rfl;exact ⟨by exact q1 ‹_›,pick_mem⟩))) fun d ⟨l,e,h⟩=>⟨l,e,h⟩)
   rfl (by decide) rfl (by decide) (fun _ _ h=>nomatch h) (fun _=>.nil) (.drop .nil) (fun _ h=>nomatch h) ?hasg (fun _=>List.nil_sublist _) (fun _ _ _ _ _ _ _=>.none) ?helt ?hP))
  (ρ':=fun ad=>[(some ("script" : Str),scK w a0 vs ds),(some ("tape" : Str),dat w.params (.adr ad))]) (fun ad=>.skip (by decide) .new) rfl rfl ?_
 case hasg=>
  rintro C K1 K2 A E G₀ s₀ G s ds d v aa _ hd hr cc
  exact st_name cc hr (.skip (fun h=>nomatch h) (.skip (fun h=>nomatch h) .new)) rfl (.inl rfl) fun s' c'=>⟨_,c'⟩
 case helt=>
  rintro C K1 K2 ds' d hs hd _
  obtain ⟨z,rfl⟩:=hds d (hs.subset hd)
  exact ev_abs (P1:=fun d=>d=.int z) (evv_blt rfl (by rfl) rfl rfl rfl rfl) (ev_name mh2 rfl) (by
   rintro _ rfl
   refine ⟨z,rfl,z.natAbs,?_⟩
   congr 1
   split<;>omega)
 case hP=>
  rintro ds' l hs
  have hl:=hs.length_le
  refine ⟨by exact q2 ‹_› ‹_›,fun h=>?_⟩
  have h2:=h.length
  rw [List.filter_eq_self.mpr (fun _ _=>rfl)] at h2
  exact ⟨all2_nat h,by omega⟩
 rintro ad cs G1 s1 hC c1
 refine st_asgT (B':=0+26) (P:=fun d=>∃ its,IsModel its∧d=.lst (its.map encI)) a c1 (t_callT (PA:=fun l=>l=[.adr ad]) ff_model (evv_glob rfl (by rfl) rfl rfl) (trs1 (ev_name (d:=.adr ad) mh2 rfl) (fun _ h=>by rw [h])) rfl ⟨_,_,rfl⟩ (o_model (n:=n+6) hC (by decide)) (fun ds d _ h=>h))
  (ρ':=fun d=>[(some ("script" : Str),scK w a0 vs ds),(some ("tape" : Str),dat w.params (.adr ad)),(some ("items" : Str),dat w.params d)]) (fun d=>.skip (by decide) (.skip (by decide) .new)) rfl (.inl rfl) ?_
 rintro _ G2 s2 ⟨its,hmo,rfl⟩ c2
 have hm:=hmo.md
 have c2:St w (envLw L) G s [] (T w ad cs 26 [(some ("tape" : Str),dat w.params (.adr ad)),(some ("items" : Str),dat w.params (.lst (its.map encI)))]) G2 s2:=c2.sub ((List.sublist_cons_self _ _).cons_cons _)
 refine st_if a noN c2 (P:=fun b=>b=false) (tr_not (tr_bool ((ev_taken (n:=n) hm (evv_glob rfl (by rfl) rfl rfl) (ev_name (d:=.lst (its.map encI)) mh2 rfl)).to fun d e=>⟨true,e,rfl⟩))) ?_
 rintro _ G3 s3 rfl c3
 refine st_nil ?_
 have hkl:=hm.klen
 refine st_asgComp (n:=n+9) (Pds:=fun ds=>ds=(rowsS (sigsOf its)).map rowD) (P:=fun l=>l=(keys (rowsS (sigsOf its))).map .str) (cl:=[]) _ [] (fun d=>[(some ("name" : Str),dat w.params (nmD d)),(some ("item" : Str),dat w.params (imD d))]) (fun _=>true) (fun d r=>r=nmD d)
  (ρ':=fun al l=>T w ad cs 26 [(some ("tape" : Str),dat w.params (.adr ad)),(some ("items" : Str),dat w.params (.lst (its.map encI))),(some ("names" : Str),own w.params al l)]) a c3 c3
  (ite_lst (EvL.ev (evl_rows (n:=n+8) hm.len hm.nl (evv_glob rfl (by rfl) rfl rfl) (ev_name (d:=.lst (its.map encI)) mh2 rfl))) fun d ⟨l,e,h⟩=>⟨l,e,h⟩)
  rfl (by decide) rfl (by decide) (fun _ _ h=>nomatch h) .nil (.drop (.drop (.drop .nil))) ?hasg2 (fun _=>List.nil_sublist _) (fun _ _ _ _ _ _ _=>.none) ?helt2 ?hP2 ?hu2 rfl rfl ?kn
 case hasg2=>
  rintro C K1 K2 A E G₀ s₀ G s ds d v aa rfl hd hr cc
  obtain ⟨p,hp,rfl⟩:=List.mem_map.mp hd
  refine asg_tup (xs:=["name","item"]) (ds:=[.str p.1,encS p.2]) aa.2.2 cc hr rfl (.cons (.skip (fun h=>nomatch h) (.skip (fun h=>nomatch h) .new)) (.cons (.skip (fun h=>nomatch h) (.skip (fun h=>nomatch h) (.skip (by decide) .new))) .nil)) (.name (.inl rfl) (.name (.inl rfl) .nil)) rfl rfl fun s' c'=>⟨_,c'⟩
 case helt2=>
  rintro C K1 K2 ds d rfl hd _
  exact ev_name mh2 rfl
 case hP2=>
  rintro ds l rfl
  refine ⟨by have:=hm.rl;simp;exact q6 ‹_›,fun h=>?_⟩
  rw [List.filter_eq_self.mpr (fun _ _=>rfl)] at h
  rw [h.map (f:=nmD),List.map_map]
  unfold keys
  rw [List.map_map];rfl
 case hu2=>
  intro C al l
  exact .skip (fun e=>nomatch e) (.skip (fun e=>nomatch e) (.skip (by decide) (.skip (by decide) .new)))
 case kn=>
 rintro al _ G4 s4 rfl hnew c4
 obtain ⟨G5,c5⟩:=c4.frzH (.tail (.tail (.tail .head))) hnew
 have c5:St w (envLw L) G s [] (T w ad cs 26 (lwR w ad its [])) G5 s4:=c5
 have hdr:∀ {ρ:Rho} {pos},EvV w (envLw L) (n+9) [] ρ (.Name "_law_draw" pos) (.ref 273):=fun {ρ pos}=>evv_glob rfl (by rfl) rfl rfl
 refine wpAny_execs_cons (st_forT (n:=n+9) (Pds:=fun l=>l=(List.range 3).map fun i=>D.int ((i:Nat):Int)) a c5 (iteT_range (P1:=fun d=>d=.int 3) (evv_blt rfl (by rfl) rfl rfl rfl rfl) (t_pure ev_int (Nat.le_refl _)) rfl (by rintro _ rfl;exact ⟨3,rfl,by decide,rfl⟩))
  (fun _ i=>T w ad cs (26+3 * i) (lwR w ad its [])) (fun ds G' s' K h c=>c) ?turn ?done)
 case done=>
  rintro ds G6 s6 rfl c6
  exact st_ret a noN c6 (K:=fun _=>KD w (fun d=>d=.bool true)) (ev_taken (n:=n) hm (evv_glob rfl (by rfl) rfl rfl) (ev_name (d:=.lst (its.map encI)) mh2 rfl)) fun v G' s' y z q=>kk v G' s' z.step q
 case turn=>
  rintro ds i d v G6 s6 K rfl hdi hr c6
  have hi:i < 3:=by
   have:=(List.getElem?_eq_some_iff.mp hdi).1
   simpa using this
  refine st_name c6 hr (.skip (fun h=>nomatch h) (.skip (fun h=>nomatch h) (.skip (by decide) (.skip (by decide) (.skip (by decide) .new))))) rfl (.inl rfl) fun s7 c7=>?_
  have c7:St w (envLw L) G s [] ((none,K)::T w ad cs (26+3 * i) (lwR w ad its [(some ("lap" : Str),dat w.params d)])) G6 s7:=c7
  have c8:St w (envLw L) G s [] (T w ad cs (26+3 * i) ((none,K)::lwR w ad its [(some ("lap" : Str),dat w.params d)])) G6 s7:=c7.swap
  generalize hB:26+3 * i=B at c8
  have hB2:B≤100:=by omega
  refine st_asgT (B':=B+1) (P:=fun d=>∃ r:Nat,r < 11∧d=.int r) a c8 (t_draw mh1 rfl hdr hC (by exact q1 ‹_›) (ev_int.to fun d e=>⟨11,by decide,e,fun r hr=>⟨r,hr,rfl⟩⟩))
   (ρ':=fun d'=>(none,K)::lwR w ad its [(some ("lap" : Str),dat w.params d),(some ("way" : Str),dat w.params d')]) (fun d=>.skip (fun h=>nomatch h) (.skip (by decide) (.skip (by decide) (.skip (by decide) (.skip (by decide) .new))))) rfl (.inl rfl) ?_
  rintro _ G8 s8 ⟨way,hway,rfl⟩ c9
  have c9:St w (envLw L) G s [] (T w ad cs (B+1) ((none,K)::lwR w ad its [(some ("lap" : Str),dat w.params d),(some ("way" : Str),dat w.params (.int (way:Int)))])) G8 s8:=c9
  have args:∀ {b:Nat} {p1 p2 p3 p4},Trs w (envLw L) (n+9) [] (T w ad cs b ((none,K)::lwR w ad its [(some ("lap" : Str),dat w.params d),(some ("way" : Str),dat w.params (.int (way:Int)))])) (ml (envLw L) [.Name "tape" p1,.Name "items" p2,.Name "way" p3,.Name "names" p4]) (fun l=>l=[.adr ad,.lst (its.map encI),.int (way:Int),.lst ((keys (rowsS (sigsOf its))).map .str)]):=fun {b p1 p2 p3 p4}=>
   mq (ev_name mh2 rfl) (mq (ev_name mh3 rfl) (mq (ev_name mh6 rfl) (mq (ev_name mh4 rfl) mq_nil)))
  have htest:∀ {b:Nat} {kk p1 p2 p3},Tr w (envLw L) (n+9) [] (T w ad cs b ((none,K)::lwR w ad its [(some ("lap" : Str),dat w.params d),(some ("way" : Str),dat w.params (.int (way:Int)))])) (.Compare (.Name "way" p1) [.Lt] [.Constant (.int 5) kk p2] p3) (fun b=>b=decide (way < 5)):=fun {b kk p1 p2 p3}=>
   tr_lt (ev_name (d:=.int (way:Int)) mh6 rfl) ev_int (by rintro _ _ rfl rfl;refine ⟨_,_,rfl,rfl,?_⟩;rw [Bool.eq_iff_iff];simp;exact qg)
  refine st_tupDT (B':=B+1+2) (xs:=["bent","due"]) (P:=fun l=>∃ its' z,Tame its'∧Refused its' z∧l=[.lst (its'.map encI),.int z]) (ρs:=fun l=>match l with | [d1,d2]=>T w ad cs (B+1+2) ((none,K)::lwR w ad its [(some ("lap" : Str),dat w.params d),(some ("way" : Str),dat w.params (.int (way:Int))),(some ("bent" : Str),dat w.params d1),(some ("due" : Str),dat w.params d2)]) | _=>[]) a c9 ?he rfl ?hu3
   (.name (.inl rfl) (.name (.inl rfl) .nil)) rfl (by rintro l ⟨its',z,_,_,rfl⟩;rfl) ?kt
  case he=>
   by_cases h5:way < 5
   ·exact t_callF (PA:=fun l=>∃ way':Nat,way' < 5∧l=[.adr ad,.lst (its.map encI),.int (way':Int),.lst ((keys (rowsS (sigsOf its))).map .str)]) (PF:=fun _ d=>BentD d) ff_bsigs (evv_if (b0:=true) (htest.to fun b e=>by rw [e,decide_eq_true h5]) (fun _=>evv_glob rfl (by rfl) rfl rfl) (fun h=>nomatch h))
     (fun A G₀ s₀ M G s Q E a b c k=>args A G₀ s₀ M G s Q E a b c fun vs G' s' ds y z r p hl=>k vs G' s' ds y z r ⟨way,h5,p⟩ hl) rfl ⟨_,_,rfl⟩ (o_bsigs (n:=n+5) hC (by exact q7 ‹_›) hm) (fun ds d _ ⟨its',z,h1,h2,e⟩=>⟨_,e,its',z,h1,h2,rfl⟩)
   ·exact t_callF (PA:=fun l=>∃ way':Nat,(5≤way'∧way' < 11)∧l=[.adr ad,.lst (its.map encI),.int (way':Int),.lst ((keys (rowsS (sigsOf its))).map .str)]) (PF:=fun _ d=>BentD d) ff_brest (evv_if (b0:=false) (htest.to fun b e=>by rw [e,decide_eq_false h5]) (fun h=>nomatch h) (fun _=>evv_glob rfl (by rfl) rfl rfl))
     (fun A G₀ s₀ M G s Q E a b c k=>args A G₀ s₀ M G s Q E a b c fun vs G' s' ds y z r p hl=>k vs G' s' ds y z r ⟨way,⟨by omega,hway⟩,p⟩ hl) rfl ⟨_,_,rfl⟩ (o_brest (n:=n+5) hC (by exact q7 ‹_›) hm) (fun ds d _ ⟨its',z,h1,h2,e⟩=>⟨_,e,its',z,h1,h2,rfl⟩)
  case hu3=>
   rintro l ⟨its',z,_,_,rfl⟩
   exact .cons (.skip (fun h=>nomatch h) (.skip (fun h=>nomatch h) (.skip (by decide) (.skip (by decide) (.skip (by decide) (.skip (by decide) (.skip (by decide) .new))))))) (.cons (.skip (fun h=>nomatch h) (.skip (fun h=>nomatch h) (.skip (by decide) (.skip (by decide) (.skip (by decide) (.skip (by decide) (.skip (by decide) (.skip (by decide) .new)))))))) .nil)
  case kt=>
  rintro l G9 s9 ⟨its',z,tm,hR,rfl⟩ c10
  have c10:St w (envLw L) G s [] (T w ad cs (B+1+2) ((none,K)::lwR w ad its [(some ("lap" : Str),dat w.params d),(some ("way" : Str),dat w.params (.int (way:Int))),(some ("bent" : Str),dat w.params (.lst (its'.map encI))),(some ("due" : Str),dat w.params (.int z))])) G9 s9:=c10
  have m7:∀ {q0 q1 q2 q3 q4 q5 q6 q7:Option Str×Kd} {r:Rho},q7∈q0::q1::q2::q3::q4::q5::q6::q7::r:=mh7
  refine wpAny_execs_cons (wpAny_If (wpAny_isTrue_Compare1 (wpAny_Call_ofName ((evv_glob (v:=.ref 348) (n:=n+9) (N:=[]) rfl (by rfl) rfl rfl) A G s [] G9 s9 _ _ a noN c10 fun f G10 s10 y10 c11 e=>?_)) (bim_of (by decide) (by decide))))
  subst e
  have hdue:∀ {pos},Ev w (envLw L) (n+9) [] (T w ad cs (B+1+2) ((none,K)::lwR w ad its [(some ("lap" : Str),dat w.params d),(some ("way" : Str),dat w.params (.int (way:Int))),(some ("bent" : Str),dat w.params (.lst (its'.map encI))),(some ("due" : Str),dat w.params (.int z))])) (.Name "due" pos) (fun d=>d=.int z):=fun {pos}=>ev_name (.tail _ m7) rfl
  have ha:∀ {p1 p2},Trs w (envLw L) (n+9) [] (T w ad cs (B+1+2) ((none,K)::lwR w ad its [(some ("lap" : Str),dat w.params d),(some ("way" : Str),dat w.params (.int (way:Int))),(some ("bent" : Str),dat w.params (.lst (its'.map encI))),(some ("due" : Str),dat w.params (.int z))])) (backTo p2 (starEach [.Name "bent" p1] (envLw L))) (fun l=>l=[.lst (its'.map encI)]):=fun {p1 p2}=>trs1 (ev_name (d:=.lst (its'.map encI)) m7 rfl) (fun _ h=>by rw [h])
  refine callWith_function_kw (Calls.evalArgs_plain (ha A G s [] G10 s10 _ _ a noN c11 fun vs1 G11 s11 ds1 y11 c12 r11 p11 hl11=>⟨⟨c12.bs.K _ _ ff_lspot.at_,rfl⟩,?_⟩))
  subst p11
  obtain ⟨_,_,rfl,r1,r2⟩:=r11.inv
  ·
   obtain ⟨_,rfl⟩:=r2.inv
   have hff:s11.heap.FunFrames {} [envLw L]:=⟨by show ScopeKind.function≠.module;decide,⟨L,by
    obtain ⟨m,o,es,ep,e,dd,_⟩:=c12.fr
    exact ⟨o,rfl,rfl,e,fun vs q=>by rw [dd] at q;cases q⟩⟩,trivial⟩
   refine c_lspot (n:=n) (lo:=[envLw L]) tm r1 c12.step.inn c12.HFG a hA hff (fun L' h=>?_) (fun G' s' y hT=>(hT.not hR).elim) (fun z' t s12 hz hs kp=>?_)
   ·have e:L'=L:=List.mem_singleton.mp h
    rw [e];exact c12.GL
   have ez:z'=z:=hz.one hR
   subst ez
   have c13:=c12.kp rfl hs kp
   refine hdue A G s [] G11 s12 _ _ a noN c13 fun v2 G12 s13 y13 c14 ⟨d2,r2,e2⟩=>?_
   subst e2
   obtain ⟨_,rfl⟩:=r2.inv
   refine PyProof.Rows.ne_int (wpAny_truthy_bool ?_)
   rw [show (z' != z')=false by simp]
   rw [if_neg (by decide)]
   refine st_nil (st_nil ⟨G12,?_⟩)
   have e3:B+1+2=26+3 * (i+1):=by omega
   rw [e3] at c14
   exact c14.swap.sub (((List.sublist_append_left [_,_,_] [_,_,_,_]).cons_cons _).cons_cons _)
end Mine
end
section
namespace Mine
set_option maxHeartbeats 4000000 in
theorem law_go {w:World} {s:Shared} {a:Addr} {vs:List Value} {ns:List Int} (F:HF w s.heap) (hl:s.heap.IsList a vs.toArray) (hi:IntsAre vs ns) (hlen:ns.length≤63) :
  wpAny (model pw w) callerA (call (.ref 353) [.ref a]) (fun v s'=>v=.bool true∧Keeps s s') (fun _ _=>False) s:=by
 let G:Fz:=fun b=>s.heap.get? b
 have i:Inn G s.heap:=fun _ _ e=>e
 have b:Bs w G:=fun h ih=>F.mono fun b o e=>ih b o e
 have r:RepL w.params G vs (ns.map .int):=by
  clear hl hlen
  induction hi with
  | nil=>exact .nil
  | cons x t _ ih=>exact .cons (.int x t) ih
 refine wpAny_call (codeAny_fn (N:=[]) (ρ₀:=[(some ("script" : Str),scK w a vs (ns.map .int))]) ff_law (binds:=[(("script" : Str),.ref a)]) rfl (by show [("script" : Str)].Nodup;decide) (by show ∀ y∈[("script" : Str)],_;decide +kernel) i b (by decide) ?_ ?_ ?_ (List.pairwise_singleton _ _) fun env s₁ he c=>?_)
 ·intro q hq
  rw [List.mem_singleton.mp hq]
  obtain ⟨o,h1,h2⟩:=hl
  exact ⟨.ref a,.head _,rfl,⟨o,h1,h2⟩,r⟩
 ·intro q hq
  rw [List.mem_singleton.mp hq]
  exact fun _ h=>nomatch h
 ·intro q hq
  rw [List.mem_singleton.mp hq]
  exact fun _ h=>nomatch h
 change env=envLw _ at he
 generalize s.heap.objs.size=L at he
 subst he
 refine law_body (n:=0) (ds:=ns.map .int) ⟨show callerA.depth+1+(0+9)≤900 by decide,show callerA.units+3+8 * (0+9)≤9000 by decide,rfl⟩ (Around.frames_deeper rfl) c (fun d hd=>?_) (by simpa using hlen) fun v G' s' y ⟨d,rd,e⟩=>?_
 ·obtain ⟨z,_,rfl⟩:=List.mem_map.mp hd
  exact ⟨z,rfl⟩
 ·subst e
  obtain ⟨_,rfl⟩:=rd.inv
  obtain ⟨h',tk,e⟩:=y.same
  refine ⟨rfl,h',tk,e,fun b o hb=>?_⟩
  have:=y.keep b o (fun h=>nomatch h) hb
  rw [e] at this
  exact this
end Mine
end
theorem PySem.Challenge.cw_nz0386_01_holds : PySem.Challenge.rw_nz0386_01.Holds :=
  Mine.head fun _ _ _ _ _ F _ hl hi hlen => Mine.law_go F hl hi hlen
