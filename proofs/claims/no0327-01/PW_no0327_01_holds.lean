import PyProof.Rows.All
import Wide.All
import OpenK.AllK
import Wide.FinOn
import Lean
import PySem.Challenge.RW_no0327_01
set_option Elab.async false
set_option linter.all false
set_option genSizeOf false
set_option genCtorIdx false
set_option tactic.hygienic false
set_option bootstrap.genMatcherCode false
set_option compiler.extract_closed false
namespace Mine
open List renaming length_map→aA,getElem?_eq_some_iff→aB,getElem?_eq_getElem→aC,length_append→aD,mem_of_getElem?→aF,mem_singleton→aG,map_append→aI,getElem?_append_left→aJ,getElem?_map→aK,getD_eq_getElem?_getD→aL,length_range→aP,replicate→aV,range→aX,map_cons→aY,mem_cons_self→aZ,mem_cons_of_mem→bA,length_singleton→bI,mem_cons→bJ,mem_map→bL,take_length→bM,getElem?_eq_none→bN,getElem?_append_right→bP,mem_append→bQ,length_set→bR,append_assoc→bV,mem_filter→bX,size_toArray→bY,length_filter_le→bZ,prefix_refl→cA,getElem?_set_ne→cB,all_eq_true→cC,append_nil→cD,isEmpty_iff→cF,mem_append_left→cG,getElem?_range→cI,getElem?_set_self→cJ,mem_range→cK,map_map→cL,getElem?_concat_length→cN,getElem_of_mem→cQ,length_take→cS,length_cons→cT,nodup_cons→cZ,lookup_cons→dC,length_eq_zero_iff→dD,nodup_append→dI,length_replicate→dK,mem_append_right→dW,mem_of_mem_take→dY,mem_flatMap→dZ,take_of_length_le→eC,length_filter_eq_length_iff→eD,not_mem_nil→eH,foldl_append→eO,mem_or_eq_of_mem_set→eR,drop_eq_getElem_cons→eS,count_cons→eU,map_set→eW,ext_getElem?→eX,sum_cons→fA,map_congr_left→fB,filter_eq_self→fC,countP_cons→fL
open Nat renaming le_trans→aE,lt_of_lt_of_le→aM,le_refl→aO,lt_of_le_of_lt→aQ,lt_succ_of_lt→bD,ne_of_lt→bG,le_of_eq→bH,lt_succ_iff_lt_or_eq→bO,le_of_lt→bW,lt_trans→cO,ne_of_gt→cP,not_lt_zero→cU,lt_succ_self→cV,zero_le→cX,le_add_right→dG,add_le_add→dH,mul_le_mul_left→dJ,not_lt→dM,le_succ_of_le→dN,lt_irrefl→dR,not_le→eF,le_of_lt_succ→eG,min_le_right→eI,zero_add→eJ,succ_add_eq_add_succ→eK,sub_self→eM,le_succ→eQ,le_antisymm→eV,succ→eY,le_of_succ_le→eZ,lt_add_of_pos_right→fD,lt_of_le_of_ne→fF,lt_succ_of_le→fK,succ_pos→fM,add_le_add_left→fO
open Option renaming bind_eq_some_iff→aH,map_eq_some_iff→bE,bind_some→cE,isNone_iff_eq_none→cM,isSome_iff_exists→cW,map_some→eE
open PySem.Heap renaming get?_push_of_some→aR,get?_push_size→aW,lt_size→cY,get?_update_self→dL,size_push→dX,get?_update_other→fE
open Int renaming le_trans→aS,natCast_nonneg→bU,ofNat_lt→cH,toNat_of_nonneg→dA,toNat_natCast→dO,ofNat_le→dP,add_le_add_right→dQ,ofNat_inj→dS,not_lt→fG,lt_of_lt_of_le→fH,add_right_comm→fI,le_of_lt→fN,add_le_add_left→fP
open Bool renaming false_ne_true→bC,and_eq_true_iff→bS,or_eq_true_iff→cR,and_eq_true→dE,not_eq_true'→dU,eq_false_iff→fJ
open Array renaming length_toList→eP
section
open PySem PySem.W PyProof.Rows
section
inductive V where
 |unset | none | bool (b:Bool) | int (i:Int) | str (k:Nat) | tup (vs:List V) | ref (n:Nat) | obj (c n:Nat)
noncomputable def ID:List Str:=(["<=",">=","=","!=","cardinality","values"]:List String).map Str.ofString
noncomputable def lF(k:Nat):Str:=ID.getD k Str.empty
noncomputable def sK:List Str:=(["domains","firsts","trail","marks","news","speaker","is_failed","clash","number","scope","strength","able","lows","highs","at","counts","taken","rows","wanted","has_twins"]:List String).map Str.ofString
noncomputable def gY(k:Nat):Str:=sK.getD k Str.empty
set_option genInjectivity false in
inductive hW where
 |list (vs:List V) | dict (kvs:List (Int×V)) | ns (fs:List (Nat×V))
structure W where
 get:Nat→Option hW
 next:Nat
set_option genInjectivity false in
structure Pk where
 w:World
 h0:Heap
 os:OsState
 cls:Nat→Addr
 K:Frag
 mg:Str→Option Value
 mb:Str→Option Value
 hK:K.In h0
 g:h0.Ns mainGlobals mg
 b:h0.Ns builtinsNs mb
 nolimit:h0.NoLimit
 ban:Addr→Prop
 gl:Addr
 gis:List Int
 gat:∃vs:List Value,h0.IsList gl vs.toArray∧PyProof.Rows.IntsAre vs gis
 glen:gis.length≤100000
noncomputable def lim:Nat:=100000
set_option genInjectivity false
inductive BA(i:Int):Value→Prop | mk (t:Tok):BA i (.int i t)
inductive uC(G:Addr)(k:Nat):Value→Prop | mk (t:Tok):k≠6→uC G k (.str (lF k) t) | giv:k=6→uC G k (.ref G)
inductive Ax(B:Addr→Prop)(h:Heap)(l:Nat)(R:List Value→Prop):Value→Prop
 |mk (a:Addr) (n:Nat) (vs:List Value):h.get? a=some {cls:=.type "tuple",data:=.seq vs.toArray n}→R vs→¬B a→l≤lim→Ax B h l R (.ref a)
inductive Ay(φ:List Addr)(n:Nat):Value→Prop | mk (a:Addr):φ[n]?=some a→Ay φ n (.ref a)
inductive Az(φ:List Addr)(h:Heap)(c:Addr)(n:Nat):Value→Prop
 |mk (x dx:Addr):h.get? x=some (instObj c dx)→φ[n]?=some dx→Az φ h c n (.ref x)
inductive pC{α:Type}(R:α→Prop)(RS:List α→Prop):List α→Prop | mk (v:α) (us:List α):R v→RS us→pC R RS (v::us)
inductive WZ(f:Nat)(R:Value→Prop):DictEntry→Prop | mk (hs:Int) (t:Tok) (v:Value):f<20→R v→WZ f R ⟨hs,.str (gY f) t,v⟩
inductive KvV(k:Int)(R:Value→Prop):Int×Value→Prop | mk (v:Value):R v→KvV k R (k,v)
section
variable(X:Pk)(φ:List Addr)(h:Heap)
noncomputable def aA7:V→Value→Prop:=V.rec (motive_1:=λξ=>Value→Prop) (motive_2:=λξ=>List Value→Prop)
 (λξ=>True) (λv=>v=.none) (λb v=>v=.bool b) BA (uC X.gl) (λds R=>Ax X.ban h ds.length R) (Ay φ) (λc n=>Az φ h (X.cls c) n)
 (λvs=>vs=[]) (λξ ξ R RS=>pC R RS)
noncomputable def XW:List V→List Value→Prop:=V.rec_1 (motive_1:=λξ=>Value→Prop) (motive_2:=λξ=>List Value→Prop)
 (λξ=>True) (λv=>v=.none) (λb v=>v=.bool b) BA (uC X.gl) (λds R=>Ax X.ban h ds.length R) (Ay φ) (λc n=>Az φ h (X.cls c) n)
 (λvs=>vs=[]) (λξ ξ R RS=>pC R RS)
noncomputable def Rep(v:Value)(d:V):Prop:=aA7 X φ h d v
noncomputable def fU(vs:List Value)(ds:List V):Prop:=XW X φ h ds vs
noncomputable def kK(es:List DictEntry)(fs:List (Nat×V)):Prop:=List.rec (motive:=λξ=>List DictEntry→Prop) (λes=>es=[]) (λf ξ R=>pC (WZ f.1 λv=>Rep X φ h v f.2) R) fs es
noncomputable def Kvs(es:List (Int×Value))(fs:List (Int×V)):Prop:=List.rec (motive:=λξ=>List (Int×Value)→Prop) (λes=>es=[]) (λf ξ R=>pC (KvV f.1 λv=>Rep X φ h v f.2) R) fs es
inductive xF(a:Addr)(ds:List V):Prop | mk (n:Nat) (vs:List Value):h.get? a=some (listOf vs.toArray n)→fU X φ h vs ds→ds.length≤lim→xF a ds
inductive xH(a:Addr)(ds:List (Int×V)):Prop | mk (kvs:List (Int×Value)):h.DictOf (intKind PySem.Challenge.pw_no0327_01 X.w) a kvs→Kvs X φ h kvs ds→ds.length≤lim→xH a ds
inductive Pt(a:Addr)(fs:List (Nat×V)):Prop | mk (n:Nat) (es:List DictEntry):h.get? a=some (dictOf es n)→kK X φ h es fs→fs.length≤100→Pt a fs
noncomputable def iK(a:Addr)(c:hW):Prop:=hW.casesOn c (xF X φ h a) (xH X φ h a) (Pt X φ h a)
end
section
variable{X:Pk}{φ φ':List Addr}{h h':Heap}
theorem Rep.unset(v:Value):Rep X φ h v .unset:=trivial
theorem Rep.none:Rep X φ h .none .none:=rfl
theorem Rep.bool(b:Bool):Rep X φ h (.bool b) (.bool b):=rfl
theorem Rep.int(i:Int)(t:Tok):Rep X φ h (.int i t) (.int i):=BA.mk t
theorem Rep.str(k:Nat)(t:Tok)(hk:k≠6):Rep X φ h (.str (lF k) t) (.str k):=uC.mk t hk
theorem Rep.giv:Rep X φ h (.ref X.gl) (.str 6):=uC.giv rfl
theorem Rep.tup{a:Addr}{n:Nat}{vs:List Value}{ds:List V}(e:h.get? a=some {cls:=.type "tuple",data:=.seq vs.toArray n})(r:fU X φ h vs ds)(b:¬X.ban a)(l:ds.length≤lim):Rep X φ h (.ref a) (.tup ds):=Ax.mk a n vs e r b l
theorem Rep.ref{n:Nat}{a:Addr}(e:φ[n]?=some a):Rep X φ h (.ref a) (.ref n):=Ay.mk a e
theorem Rep.obj{x dx:Addr}{c n:Nat}(e:h.get? x=some (instObj (X.cls c) dx))(e2:φ[n]?=some dx):Rep X φ h (.ref x) (.obj c n):=Az.mk x dx e e2
theorem Rep.int_inv{v}{i:Int}(r:Rep X φ h v (.int i)):BA i v:=r
theorem Rep.str_inv{v}{i:Nat}(r:Rep X φ h v (.str i)):uC X.gl i v:=r
theorem Rep.ref_inv{v}{n:Nat}(r:Rep X φ h v (.ref n)):Ay φ n v:=r
theorem Rep.tup_inv{v}{ds:List V}(r:Rep X φ h v (.tup ds)):Ax X.ban h ds.length (λvs=>fU X φ h vs ds) v:=r
theorem Rep.obj_inv{v}{c n:Nat}(r:Rep X φ h v (.obj c n)):Az φ h (X.cls c) n v:=r
theorem Rep.bool_inv{v}{b:Bool}(r:Rep X φ h v (.bool b)):v=.bool b:=r
theorem Rep.none_inv{v}(r:Rep X φ h v .none):v=.none:=r
theorem fU.nil:fU X φ h [] []:=rfl
theorem fU.cons{v d vs ds}(a:Rep X φ h v d)(b:fU X φ h vs ds):fU X φ h (v::vs) (d::ds):=pC.mk v vs a b
theorem fU.nil_inv{vs}(r:fU X φ h vs []):vs=[]:=r
theorem fU.cons_inv{vs d ds}(r:fU X φ h vs (d::ds)):pC (λv=>Rep X φ h v d) (λvs=>fU X φ h vs ds) vs:=r
inductive Zm{α:Type}(R:α→Prop):List α→Prop | mk (v:α):R v→Zm R [v]
inductive Zd{α:Type}(R R':α→Prop):List α→Prop | mk (v u:α):R v→R' u→Zd R R' [v,u]
theorem fU.one{vs d}(r:fU X φ h vs [d]):Zm (λv=>Rep X φ h v d) vs:=by
 cases r.cons_inv with | mk v us a b=>cases b.nil_inv;exact .mk v a
theorem fU.two{vs d e}(r:fU X φ h vs [d,e]):Zd (λv=>Rep X φ h v d) (λv=>Rep X φ h v e) vs:=by
 cases r.cons_inv with | mk v us a b=>cases b.one with | mk u c=>exact .mk v u a c
theorem kK.nil:kK X φ h [] []:=rfl
theorem kK.cons{hs t v f d es fs}(l:f<20)(a:Rep X φ h v d)(b:kK X φ h es fs):kK X φ h (⟨hs,.str (gY f) t,v⟩::es) ((f,d)::fs):=pC.mk _ _ (.mk hs t v l a) b
theorem kK.cons_inv{es p fs}(r:kK X φ h es (p::fs)):pC (WZ p.1 λv=>Rep X φ h v p.2) (λes=>kK X φ h es fs) es:=r
theorem Kvs.nil:Kvs X φ h [] []:=rfl
theorem Kvs.cons{k v d es fs}(a:Rep X φ h v d)(b:Kvs X φ h es fs):Kvs X φ h ((k,v)::es) ((k,d)::fs):=pC.mk _ _ (.mk v a) b
theorem Kvs.cons_inv{es p fs}(r:Kvs X φ h es (p::fs)):pC (KvV p.1 λv=>Rep X φ h v p.2) (λes=>Kvs X φ h es fs) es:=r
structure kJ(X:Pk)(φ φ':List Addr)(h h':Heap):Prop where
 pre:φ <+: φ'
 tup:∀a n its,h.get? a=some {cls:=.type "tuple",data:=.seq its n}→¬X.ban a→h'.get? a=some {cls:=.type "tuple",data:=.seq its n}
 inst:∀a C dx,h.get? a=some (instObj C dx)→h'.get? a=some (instObj C dx)
theorem kJ.all(p:φ <+: φ')(k:∀b o,h.get? b=some o→h'.get? b=some o):kJ X φ φ' h h':=⟨p,λξ ξ ξ e ξ=>k _ _ e,λξ ξ ξ e=>k _ _ e⟩
theorem kJ.same(p:φ <+: φ'):kJ X φ φ' h h:=.all p λξ ξ e=>e
theorem sC(p:φ <+: φ'){n:Nat}{a:Addr}(h:φ[n]?=some a):φ'[n]?=some a:=by
 obtain⟨t,rfl⟩:=p
 rw[aJ (aB.mp h).1];exact h
structure Zo(X X':Pk)(φ φ':List Addr)(h h':Heap):Prop where
 pre:φ <+: φ'
 tup:∀a n its,h.get? a=some {cls:=.type "tuple",data:=.seq its n}→¬X.ban a→h'.get? a=some {cls:=.type "tuple",data:=.seq its n}
 ban:∀a n its,h.get? a=some {cls:=.type "tuple",data:=.seq its n}→¬X.ban a→¬X'.ban a
 cls:X'.cls=X.cls
 gl:X'.gl=X.gl
 inst:∀a C dx,h.get? a=some (instObj C dx)→h'.get? a=some (instObj C dx)
theorem pC.imp{α:Type}{R R':α→Prop}{RS RS':List α→Prop}{l:List α}(x:pC R RS l)(f:∀v,R v→R' v)(g:∀vs,RS vs→RS' vs):pC R' RS' l:=by cases x with | mk v us a b=>exact .mk v us (f _ a) (g _ b)
theorem Rep.keepsG{X':Pk}(k:Zo X X' φ φ' h h'):∀(d:V) (v:Value),Rep X φ h v d→Rep X' φ' h' v d:=
 V.rec (motive_1:=λd=>∀v,Rep X φ h v d→Rep X' φ' h' v d) (motive_2:=λds=>∀vs,fU X φ h vs ds→fU X' φ' h' vs ds)
  (λξ ξ=>trivial) (λξ r=>r) (λξ ξ r=>r) (λξ ξ r=>r) (λi v r=>r.str_inv.casesOn (λt q=>.str _ t q) λq=>by subst q;rw[←k.gl];exact .giv)
  (λds ih v r=>by cases r.tup_inv with | mk a n vs e1 r1 b l=>exact .tup (k.tup _ _ _ e1 b) (ih _ r1) (k.ban _ _ _ e1 b) l)
  (λn v r=>by cases r.ref_inv with | mk a e=>exact .ref (sC k.pre e)) (λc n v r=>by cases r.obj_inv with | mk x dx e1 e2=>exact .obj (by rw[k.cls];exact k.inst _ _ _ e1) (sC k.pre e2))
  (λξ r=>r) (λd ds a b vs r=>r.cons_inv.imp a b)
theorem fU.keepsG{X':Pk}(k:∀d v,Rep X φ h v d→Rep X' φ' h' v d):∀ds vs,fU X φ h vs ds→fU X' φ' h' vs ds:=
 List.rec (λξ r=>r) λd ds ih vs r=>r.cons_inv.imp (k d) ih
theorem kK.keepsG{X':Pk}(k:∀d v,Rep X φ h v d→Rep X' φ' h' v d):∀ds vs,kK X φ h vs ds→kK X' φ' h' vs ds:=
 List.rec (λξ r=>r) λd ds ih vs r=>r.cons_inv.imp (λv x=>by cases x with | mk hs t v l a=>exact .mk hs t v l (k _ _ a)) ih
theorem Kvs.keepsG{X':Pk}(k:∀d v,Rep X φ h v d→Rep X' φ' h' v d):∀ds vs,Kvs X φ h vs ds→Kvs X' φ' h' vs ds:=
 List.rec (λξ r=>r) λd ds ih vs r=>r.cons_inv.imp (λv x=>by cases x with | mk v a=>exact .mk v (k _ _ a)) ih
theorem iK.keepsG{X':Pk}{a:Addr}{c:hW}(hw:X'.w=X.w)(k:∀d v,Rep X φ h v d→Rep X' φ' h' v d)(ka:∀o,h.get? a=some o→h'.get? a=some o)(x:iK X φ h a c):iK X' φ' h' a c:=by
 cases c with
 |list ds=>cases x with | mk n vs e r l=>exact .mk n vs (ka _ e) (fU.keepsG k _ _ r) l
 |dict ds=>cases x with | mk kvs e r l=>exact .mk kvs (by obtain⟨o,es,ep,e,z⟩:=e;rw[hw];exact⟨o,es,ep,ka _ e,z⟩) (Kvs.keepsG k _ _ r) l
 |ns fs=>cases x with | mk n es e r l=>exact .mk n es (ka _ e) (kK.keepsG k _ _ r) l
theorem kJ.G(k:kJ X φ φ' h h')(d:V)(v:Value)(r:Rep X φ h v d):Rep X φ' h' v d:=Rep.keepsG ⟨k.pre,k.tup,λξ ξ ξ ξ b=>b,rfl,rfl,k.inst⟩ d v r
theorem Rep.keeps(k:kJ X φ φ' h h'){v:Value}{d:V}(r:Rep X φ h v d):Rep X φ' h' v d:=k.G _ _ r
theorem fU.keeps(k:kJ X φ φ' h h'){v d}(r:fU X φ h v d):fU X φ' h' v d:=fU.keepsG k.G _ _ r
theorem kK.keeps(k:kJ X φ φ' h h'){v d}(r:kK X φ h v d):kK X φ' h' v d:=kK.keepsG k.G _ _ r
theorem Kvs.keeps(k:kJ X φ φ' h h'){v d}(r:Kvs X φ h v d):Kvs X φ' h' v d:=Kvs.keepsG k.G _ _ r
theorem iK.keeps{a:Addr}{c:hW}(k:kJ X φ φ' h h')(ka:∀o,h.get? a=some o→h'.get? a=some o)(x:iK X φ h a c):iK X φ' h' a c:=x.keepsG rfl k.G ka
theorem iK.some{a:Addr}{c:hW}(x:iK X φ h a c):(h.get? a).isSome=true:=by
 cases c with
 |list ds=>cases x with | mk n vs e=>rw[e];rfl
 |dict ds=>cases x with | mk kvs e=>obtain⟨o,es,ep,e,z⟩:=e;rw[e];rfl
 |ns fs=>cases x with | mk n es e=>rw[e];rfl
theorem fU.len:∀{ds:List V} {vs:List Value},fU X φ h vs ds→vs.length=ds.length:=
 λ{ds}=>List.rec (motive:=λds=>∀{vs:List Value},fU X φ h vs ds→vs.length=ds.length) (λr=>by cases r.nil_inv;rfl) (λd ds ih vs r=>by cases r.cons_inv with | mk v us a b=>exact congrArg (· + 1) (ih b)) ds
end
section
variable(X:Pk)
noncomputable def Gf(φ:List Addr)(w:W)(a:Addr):Prop:=∃n,(w.get n).isSome=true∧φ[n]?=some a
structure Cst(φ:List Addr)(w:W)(s:Shared):Prop where
 len:φ.length=w.next
 nd:φ.Nodup
 cell:∀n c,w.get n=some c→∃a,φ[n]?=some a∧iK X φ s.heap a c
 alive:∀a∈φ,(s.heap.get? a).isSome=true
 fresh:∀a∈φ,X.h0.get? a=none
 base:∀b o,X.h0.get? b=some o→s.heap.get? b=some o
 gens:s.gens=#[]
 os:s.os=X.os
 ban:∀a,X.ban a→(s.heap.get? a).isSome=true
structure He(w w':W):Prop where
 next:w.next≤w'.next
 get:∀n,n<w.next→(w'.get n).isSome=true→(w.get n).isSome=true
structure fR(S:Addr→Prop)(φ:List Addr)(w:W)(s:Shared)(φ':List Addr)(w':W)(s':Shared):Prop where
 pre:φ <+: φ'
 len:φ.length=w.next
 cst:Cst X φ' w' s'
 keep:∀a o,s.heap.get? a=some o→¬Gf φ w a→¬S a→s'.heap.get? a=some o
 newf:∀n a,φ'[n]?=some a→φ.length≤n→s.heap.get? a=none
 alive:∀a,(s.heap.get? a).isSome=true→(s'.heap.get? a).isSome=true
 mono:He w w'
end
section
variable{X:Pk}{φ:List Addr}{w:W}{s:Shared}
structure Dr(o:Obj):Prop where
 list:∀n its,o≠listOf its n
 dict:¬(o.cls=.type "dict"∧∃es n,o.data=.dict es n)
theorem nT(C:Cst X φ w s){a:Addr}{o:Obj}(e:s.heap.get? a=some o)(hn:Dr o):¬Gf φ w a:=by
 rintro⟨n,hn',ha⟩
 obtain⟨c,hc⟩:=cW.mp hn'
 obtain⟨a',ha',x⟩:=C.cell n c hc
 rw[ha] at ha';cases ha'
 cases c with
 |list ds=>cases x with | mk k vs h=>rw[e] at h;exact hn.list _ _ (Option.some.inj h)
 |dict ds=>cases x with | mk kvs h=>obtain⟨o',es,ep,h1,h2,h3,_⟩:=h;rw[e] at h1;cases h1;exact hn.dict ⟨h2.1,es,ep,h3⟩
 |ns fs=>cases x with | mk k es h=>rw[e] at h;cases h;exact hn.dict ⟨rfl,_,_,rfl⟩
theorem tQ{n:Nat}{its:Array Value}:Dr {cls:=.type "tuple",data:=.seq its n}:=⟨λξ ξ e=>(by simp at e),λh=>(by have:=h.1;simp at this)⟩
theorem qZ{C dx:Addr}:Dr (instObj C dx):=⟨λξ ξ e=>(by cases e),λh=>(by cases h.1)⟩
theorem Ef{o:Obj}{v:Option Value}(h:o.data=.cell v):Dr o:=⟨λξ ξ e=>(by subst e;cases h),λ⟨_,_,_,q⟩=>(by rw[h] at q;cases q)⟩
end
noncomputable def sT(v:Nat):List Nat→List Nat:=List.rec [v] λx r y=>if v<x then v::x::r else x::y
noncomputable def BN(l:List Nat)(v:Nat):List Nat:=if v∈l then l else sT v l
noncomputable def iN(l:List Nat):List Nat:=l.foldl BN []
end
theorem Ci{a b c d:Int}{n:Nat}(h:a≤b)(k:c≤d)(e:b-c≤n):(a-d).toNat≤n:=Int.toNat_le.mpr (aS (Int.sub_le_sub h k) e)
theorem ZN{A B C p q r:Int}(h:A+p=B+q)(k:B+r=C+p):A+r=C+q:=
 (Int.add_left_inj p).mp (by rw[fI,h,fI,k,fI]:A+r+p=C+q+p)
theorem Tn{t T T' l f B:Nat}(e:T'+l=T+f)(h:f<l)(k:t+T≤B):t+1+T'≤B:=
 aE (Nat.add_right_comm t 1 T'▸Nat.add_lt_add_left (Nat.lt_of_add_lt_add_right (e▸Nat.add_lt_add_left h T)) t) k
theorem IN{a T' b T n m c:Nat}(h:a+T'≤b+T)(h2:T≤4*n)(h3:n≤4)(h4:b≤m)(e:m+16≤c):a≤c:=
 aE (dG _ _) (aE h (aE (dH h4 (aE h2 (dJ 4 h3))) e))
theorem iX{P:Nat→Prop}{n:Nat}(h:∀k,k<n→P k)(h':P n):∀k,k<n+1→P k:=λk hk=>(bO.mp hk).elim (h k) λe=>e▸h'
theorem Tm{X n T T' l f B:Nat}(h:X+f≤n+l)(ts:T'+l=T+f)(sn:n+T≤B):X+T'≤B:=
 aE (Nat.le_of_add_le_add_right (b:=f) (by rw[Nat.add_right_comm,Nat.add_assoc n T f,←ts,Nat.add_comm T' l,←Nat.add_assoc];exact Nat.add_le_add_right h T')) sn
theorem Lr{A B d e H:Int}(h:A+d=B+e)(d0:0≤d)(k:B+e≤H):A≤H:=aS (Int.le_add_of_nonneg_right d0) (h.symm▸k)
theorem Im{A B d e L:Int}(h:A+e=B+d)(d0:0≤d)(k:L+e≤B):L≤A:=Int.le_of_add_le_add_right (aS k (h.symm▸Int.le_add_of_nonneg_right d0))
theorem NH{x:Int}{n:Nat}(h:0≤x)(k:x<n):∃m:Nat,x=m∧m<n:=⟨x.toNat,(dA h).symm,(Int.toNat_lt h).mpr k⟩
end
section
open PySem PySem.W PyProof.Rows
set_option genInjectivity false
section
mutual
inductive Ex where
 |non | boo (b:Bool) | int (i:Int) | str (k:Nat) | var (i:Nat)
 |bin (o:Operator) (a b:Ex)
 |neg (a:Ex)
 |and2 (a b:Ex)
 |cmp (a:Ex) (o:CmpOp) (b:Ex)
 |ite (c:Ce) (a b:Ex)
 |tup (es:Exs) | lst (es:Exs) | dct0 | dct1 (k v:Ex)
 |idx (a i:Ex) | sfrom (a i:Ex) | sto (a i:Ex)
 |attr (a:Ex) (f:Nat)
 |call (k:Nat) (es:Exs) | lenSet (a:Ex) | srtSet (a:Ex)
 |meth (o:Ex) (m:Nat) (es:Exs) | extR (o a b:Ex)
 |comp1 (elt:Ex) (k:Nat) (it:Ie) (cs:Ces)
 |comp2 (elt:Ex) (k:Nat) (it:Ie) (k2:Nat) (it2:Ie)
inductive Exs where | nil | cons (e:Ex) (es:Exs)
inductive Ce where
 |not (c:Ce) | bop (o:BoolOp) (cs:Ces) | cmp (a:Ex) (o:CmpOp) (b:Ex) | cmp2 (a:Ex) (o:CmpOp) (b:Ex) (o2:CmpOp) (c:Ex) | val (e:Ex)
inductive Ces where | nil | cons (c:Ce) (cs:Ces)
inductive Ie where | rng1 (a:Ex) | rng2 (a b:Ex) | zip (a b c:Ex) | of (e:Ex)
end
mutual
inductive Tg where | var (i:Nat) | attr (o:Ex) (f:Nat) | idx (o i:Ex) | tup (ts:Tgs)
inductive Tgs where | nil | cons (t:Tg) (ts:Tgs)
end
mutual
inductive St where
 |expr (e:Ex) | ret (e:Ex) | retn
 |asg (t:Tg) (e:Ex)
 |aug (o i:Ex) (op:Operator) (e:Ex)
 |ite (c:Ce) (a b:Bk)
 |whl (c:Ce) (b:Bk)
 |fors (t:Tg) (it:Ie) (b:Bk)
inductive Bk where | nil | cons (s:St) (b:Bk)
end
noncomputable def gK(x:Str):List Str→Option Nat:=List.rec (motive:=λξ=>Option Nat) none λy ξ r=>Option.rec (motive:=λξ=>Option Nat) (if y==x then some 0 else none) (λi=>some (i+1)) r
theorem kD(x y:Str)(ys:List Str):gK x (y::ys)=Option.rec (motive:=λξ=>Option Nat) (if y==x then some 0 else none) (λi=>some (i+1)) (gK x ys):=rfl
noncomputable def Ic:List Str:=(["len","range","max","min","sum","sorted","tuple","list","set","zip",
 "least","greatest","size_domains","next_from","has_domains","values","up_to","from_on","without","meet","negation","struck","said_of","standing",
 "Store","Placing","Cardinality",
 "_law_digit","_law_scene","_law_tuples","_law_keeps","_law_says","_law_all_say","_law_all_hold","_law_lists","_law_within","_law_followed","_law_stands","_law_store","_law_at_once","law"]:List String).map Str.ofString
noncomputable def uN:List Str:=(["append","extend","pop","index","count",
 "__init__","new_var","dom","has","width","holds","enter","strike","decide","fail","push",
 "propagate","check","told","members_at","place","fill","move_along","reached",
 "want","options_of","strike_once","confined","lacking","strike_option"]:List String).map Str.ofString
noncomputable def idxOf(x:Str):List Str→Option Nat:=List.rec (motive:=λξ=>Option Nat) none λy ξ r=>if y==x then some 0 else r.map (· + 1)
theorem pQ{x:Str}:∀{l:List Str} {i:Nat},idxOf x l=some i→l[i]?=some x
 |y::ys,i,h=>by
  replace h:(if y==x then some 0 else(idxOf x ys).map (· + 1))=some i:=h
  by_cases q:(y==x)=true
  ·rw[if_pos q] at h;cases h;simp[eq_of_beq q]
  ·rw[if_neg q] at h
   obtain⟨j,hj,rfl⟩:=bE.mp h
   simpa using pQ hj
noncomputable def yQ(sc:Scope)(x:Str):Bool:=match sc.names.lookup x with
 |some .local | some .cell | some .free=>true
 |_=>false
noncomputable def Gi(sc:Scope)(x:Str):Bool:=match sc.names.lookup x with
 |some .globalImplicit=>true
 |_=>false
noncomputable def zJ(sc:Scope)(ns:List Str)(x:Str):Option Nat:=if yQ sc x&&!(x==("__debug__" : Str))&&!(x==("__classdict__" : Str))&&!(x==(".0" : Str)) then gK x ns else none
noncomputable def Cb(sc:Scope)(x:Str):Option Nat:=if Gi sc x&&!(x==("__debug__" : Str)) then idxOf x Ic else none
theorem and2{a b:Bool}(h:(a&&b)=true):a=true∧b=true:=bS.mp h
theorem iF{c:Prop}[Decidable c]{f:c→Bool}(h:(if q:c then f q else false)=true):∃q,f q=true:=by
 by_cases q:c
 ·exact⟨q,by rwa [dif_pos q] at h⟩
 ·rw[dif_neg q] at h;cases h
inductive HW(f:Const→Nat→Pos→Bool):Expr→Prop | mk (c:Const) (k:Nat) (p:Pos):f c k p=true→HW f (.Constant c k p)
noncomputable def qA(e:Expr)(f:Const→Nat→Pos→Bool):Bool:=if h:e.ctorIdx=19 then Expr.Constant.elim (motive_1:=λξ=>Bool) e h f else false
theorem nI{e:Expr}{f:Const→Nat→Pos→Bool}(h:qA e f=true):HW f e:=
 (iF h).elim λq z=>Expr.Constant.elim (motive_1:=λt=>∀q:t.ctorIdx=19,Expr.Constant.elim (motive_1:=λξ=>Bool) t q f=true→HW f t) e q (λc k p ξ z=>.mk c k p z) q z
inductive Pf(f:Str→Pos→Bool):Expr→Prop | mk (x:Str) (p:Pos):f x p=true→Pf f (.Name x p)
noncomputable def mM(e:Expr)(f:Str→Pos→Bool):Bool:=if h:e.ctorIdx=23 then Expr.Name.elim (motive_1:=λξ=>Bool) e h f else false
theorem iL{e:Expr}{f:Str→Pos→Bool}(h:mM e f=true):Pf f e:=
 (iF h).elim λq z=>Expr.Name.elim (motive_1:=λt=>∀q:t.ctorIdx=23,Expr.Name.elim (motive_1:=λξ=>Bool) t q f=true→Pf f t) e q (λx p ξ z=>.mk x p z) q z
inductive WS(f:Expr→Operator→Expr→Pos→Bool):Expr→Prop | mk (l:Expr) (op:Operator) (r:Expr) (p:Pos):f l op r p=true→WS f (.BinOp l op r p)
noncomputable def HT(e:Expr)(f:Expr→Operator→Expr→Pos→Bool):Bool:=if h:e.ctorIdx=2 then Expr.BinOp.elim (motive_1:=λξ=>Bool) e h f else false
theorem HS{e:Expr}{f:Expr→Operator→Expr→Pos→Bool}(h:HT e f=true):WS f e:=
 (iF h).elim λq z=>Expr.BinOp.elim (motive_1:=λt=>∀q:t.ctorIdx=2,Expr.BinOp.elim (motive_1:=λξ=>Bool) t q f=true→WS f t) e q (λl op r p ξ z=>.mk l op r p z) q z
inductive WUn(f:UnaryOp→Expr→Pos→Bool):Expr→Prop | mk (op:UnaryOp) (x:Expr) (p:Pos):f op x p=true→WUn f (.UnaryOp op x p)
noncomputable def JW(e:Expr)(f:UnaryOp→Expr→Pos→Bool):Bool:=if h:e.ctorIdx=3 then Expr.UnaryOp.elim (motive_1:=λξ=>Bool) e h f else false
theorem CN{e:Expr}{f:UnaryOp→Expr→Pos→Bool}(h:JW e f=true):WUn f e:=
 (iF h).elim λq z=>Expr.UnaryOp.elim (motive_1:=λt=>∀q:t.ctorIdx=3,Expr.UnaryOp.elim (motive_1:=λξ=>Bool) t q f=true→WUn f t) e q (λop x p ξ z=>.mk op x p z) q z
inductive WR(f:BoolOp→List Expr→Pos→Bool):Expr→Prop | mk (op:BoolOp) (vs:List Expr) (p:Pos):f op vs p=true→WR f (.BoolOp op vs p)
noncomputable def HR(e:Expr)(f:BoolOp→List Expr→Pos→Bool):Bool:=if h:e.ctorIdx=0 then Expr.BoolOp.elim (motive_1:=λξ=>Bool) e h f else false
theorem Ap{e:Expr}{f:BoolOp→List Expr→Pos→Bool}(h:HR e f=true):WR f e:=
 (iF h).elim λq z=>Expr.BoolOp.elim (motive_1:=λt=>∀q:t.ctorIdx=0,Expr.BoolOp.elim (motive_1:=λξ=>Bool) t q f=true→WR f t) e q (λop vs p ξ z=>.mk op vs p z) q z
inductive WQ(f:Expr→List CmpOp→List Expr→Pos→Bool):Expr→Prop | mk (l:Expr) (ops:List CmpOp) (cs:List Expr) (p:Pos):f l ops cs p=true→WQ f (.Compare l ops cs p)
noncomputable def HQ(e:Expr)(f:Expr→List CmpOp→List Expr→Pos→Bool):Bool:=if h:e.ctorIdx=15 then Expr.Compare.elim (motive_1:=λξ=>Bool) e h f else false
theorem HP{e:Expr}{f:Expr→List CmpOp→List Expr→Pos→Bool}(h:HQ e f=true):WQ f e:=
 (iF h).elim λq z=>Expr.Compare.elim (motive_1:=λt=>∀q:t.ctorIdx=15,Expr.Compare.elim (motive_1:=λξ=>Bool) t q f=true→WQ f t) e q (λl ops cs p ξ z=>.mk l ops cs p z) q z
inductive WIf(f:Expr→Expr→Expr→Pos→Bool):Expr→Prop | mk (c:Expr) (a:Expr) (b:Expr) (p:Pos):f c a b p=true→WIf f (.IfExp c a b p)
noncomputable def PN(e:Expr)(f:Expr→Expr→Expr→Pos→Bool):Bool:=if h:e.ctorIdx=5 then Expr.IfExp.elim (motive_1:=λξ=>Bool) e h f else false
theorem LP{e:Expr}{f:Expr→Expr→Expr→Pos→Bool}(h:PN e f=true):WIf f e:=
 (iF h).elim λq z=>Expr.IfExp.elim (motive_1:=λt=>∀q:t.ctorIdx=5,Expr.IfExp.elim (motive_1:=λξ=>Bool) t q f=true→WIf f t) e q (λc a b p ξ z=>.mk c a b p z) q z
inductive WK(f:List Expr→Nat→Pos→Bool):Expr→Prop | mk (es:List Expr) (k:Nat) (p:Pos):f es k p=true→WK f (.Tuple es k p)
noncomputable def Al(e:Expr)(f:List Expr→Nat→Pos→Bool):Bool:=if h:e.ctorIdx=25 then Expr.Tuple.elim (motive_1:=λξ=>Bool) e h f else false
theorem kC{e:Expr}{f:List Expr→Nat→Pos→Bool}(h:Al e f=true):WK f e:=
 (iF h).elim λq z=>Expr.Tuple.elim (motive_1:=λt=>∀q:t.ctorIdx=25,Expr.Tuple.elim (motive_1:=λξ=>Bool) t q f=true→WK f t) e q (λes k p ξ z=>.mk es k p z) q z
inductive WN(f:List Expr→Pos→Bool):Expr→Prop | mk (es:List Expr) (p:Pos):f es p=true→WN f (.List es p)
noncomputable def HO(e:Expr)(f:List Expr→Pos→Bool):Bool:=if h:e.ctorIdx=24 then Expr.List.elim (motive_1:=λξ=>Bool) e h f else false
theorem HN{e:Expr}{f:List Expr→Pos→Bool}(h:HO e f=true):WN f e:=
 (iF h).elim λq z=>Expr.List.elim (motive_1:=λt=>∀q:t.ctorIdx=24,Expr.List.elim (motive_1:=λξ=>Bool) t q f=true→WN f t) e q (λes p ξ z=>.mk es p z) q z
inductive WO(f:List (Option Expr)→List Expr→Pos→Bool):Expr→Prop | mk (ks:List (Option Expr)) (vs:List Expr) (p:Pos):f ks vs p=true→WO f (.Dict ks vs p)
noncomputable def Dd(e:Expr)(f:List (Option Expr)→List Expr→Pos→Bool):Bool:=if h:e.ctorIdx=6 then Expr.Dict.elim (motive_1:=λξ=>Bool) e h f else false
theorem Ao{e:Expr}{f:List (Option Expr)→List Expr→Pos→Bool}(h:Dd e f=true):WO f e:=
 (iF h).elim λq z=>Expr.Dict.elim (motive_1:=λt=>∀q:t.ctorIdx=6,Expr.Dict.elim (motive_1:=λξ=>Bool) t q f=true→WO f t) e q (λks vs p ξ z=>.mk ks vs p z) q z
inductive WL(f:Expr→Expr→Pos→Bool):Expr→Prop | mk (v:Expr) (i:Expr) (p:Pos):f v i p=true→WL f (.Subscript v i p)
noncomputable def wV(e:Expr)(f:Expr→Expr→Pos→Bool):Bool:=if h:e.ctorIdx=21 then Expr.Subscript.elim (motive_1:=λξ=>Bool) e h f else false
theorem jQ{e:Expr}{f:Expr→Expr→Pos→Bool}(h:wV e f=true):WL f e:=
 (iF h).elim λq z=>Expr.Subscript.elim (motive_1:=λt=>∀q:t.ctorIdx=21,Expr.Subscript.elim (motive_1:=λξ=>Bool) t q f=true→WL f t) e q (λv i p ξ z=>.mk v i p z) q z
inductive WM(f:Option Expr→Option Expr→Option Expr→Pos→Bool):Expr→Prop | mk (lo:Option Expr) (hi:Option Expr) (st:Option Expr) (p:Pos):f lo hi st p=true→WM f (.Slice lo hi st p)
noncomputable def An(e:Expr)(f:Option Expr→Option Expr→Option Expr→Pos→Bool):Bool:=if h:e.ctorIdx=26 then Expr.Slice.elim (motive_1:=λξ=>Bool) e h f else false
theorem Am{e:Expr}{f:Option Expr→Option Expr→Option Expr→Pos→Bool}(h:An e f=true):WM f e:=
 (iF h).elim λq z=>Expr.Slice.elim (motive_1:=λt=>∀q:t.ctorIdx=26,Expr.Slice.elim (motive_1:=λξ=>Bool) t q f=true→WM f t) e q (λlo hi st p ξ z=>.mk lo hi st p z) q z
inductive WT(f:Expr→Str→Pos→Bool):Expr→Prop | mk (v:Expr) (a:Str) (p:Pos):f v a p=true→WT f (.Attribute v a p)
noncomputable def wW(e:Expr)(f:Expr→Str→Pos→Bool):Bool:=if h:e.ctorIdx=20 then Expr.Attribute.elim (motive_1:=λξ=>Bool) e h f else false
theorem kZ{e:Expr}{f:Expr→Str→Pos→Bool}(h:wW e f=true):WT f e:=
 (iF h).elim λq z=>Expr.Attribute.elim (motive_1:=λt=>∀q:t.ctorIdx=20,Expr.Attribute.elim (motive_1:=λξ=>Bool) t q f=true→WT f t) e q (λv a p ξ z=>.mk v a p z) q z
inductive Ph(f:Expr→List Expr→List Keyword→Pos→Bool):Expr→Prop | mk (g:Expr) (args:List Expr) (kw:List Keyword) (p:Pos):f g args kw p=true→Ph f (.Call g args kw p)
noncomputable def qI(e:Expr)(f:Expr→List Expr→List Keyword→Pos→Bool):Bool:=if h:e.ctorIdx=16 then Expr.Call.elim (motive_1:=λξ=>Bool) e h f else false
theorem oZ{e:Expr}{f:Expr→List Expr→List Keyword→Pos→Bool}(h:qI e f=true):Ph f e:=
 (iF h).elim λq z=>Expr.Call.elim (motive_1:=λt=>∀q:t.ctorIdx=16,Expr.Call.elim (motive_1:=λξ=>Bool) t q f=true→Ph f t) e q (λg args kw p ξ z=>.mk g args kw p z) q z
inductive WLc(f:Expr→List Comprehension→Scope→Pos→Bool):Expr→Prop | mk (e:Expr) (gs:List Comprehension) (sc:Scope) (p:Pos):f e gs sc p=true→WLc f (.ListComp e gs sc p)
noncomputable def JX(e:Expr)(f:Expr→List Comprehension→Scope→Pos→Bool):Bool:=if h:e.ctorIdx=8 then Expr.ListComp.elim (motive_1:=λξ=>Bool) e h f else false
theorem CO{e:Expr}{f:Expr→List Comprehension→Scope→Pos→Bool}(h:JX e f=true):WLc f e:=
 (iF h).elim λq z=>Expr.ListComp.elim (motive_1:=λt=>∀q:t.ctorIdx=8,Expr.ListComp.elim (motive_1:=λξ=>Bool) t q f=true→WLc f t) e q (λe gs sc p ξ z=>.mk e gs sc p z) q z
inductive ZEx(f:Expr→Pos→Bool):Stmt→Prop | mk (e:Expr) (p:Pos):f e p=true→ZEx f (.Expr e p)
noncomputable def JV(e:Stmt)(f:Expr→Pos→Bool):Bool:=if h:e.ctorIdx=24 then Stmt.Expr.elim (motive_2:=λξ=>Bool) e h f else false
theorem CM{e:Stmt}{f:Expr→Pos→Bool}(h:JV e f=true):ZEx f e:=
 (iF h).elim λq z=>Stmt.Expr.elim (motive_2:=λt=>∀q:t.ctorIdx=24,Stmt.Expr.elim (motive_2:=λξ=>Bool) t q f=true→ZEx f t) e q (λe p ξ z=>.mk e p z) q z
inductive WF(f:Option Expr→Pos→Bool):Stmt→Prop | mk (e:Option Expr) (p:Pos):f e p=true→WF f (.Return e p)
noncomputable def HG(e:Stmt)(f:Option Expr→Pos→Bool):Bool:=if h:e.ctorIdx=3 then Stmt.Return.elim (motive_2:=λξ=>Bool) e h f else false
theorem Ak{e:Stmt}{f:Option Expr→Pos→Bool}(h:HG e f=true):WF f e:=
 (iF h).elim λq z=>Stmt.Return.elim (motive_2:=λt=>∀q:t.ctorIdx=3,Stmt.Return.elim (motive_2:=λξ=>Bool) t q f=true→WF f t) e q (λe p ξ z=>.mk e p z) q z
inductive WJ(f:List Expr→Expr→Pos→Bool):Stmt→Prop | mk (ts:List Expr) (e:Expr) (p:Pos):f ts e p=true→WJ f (.Assign ts e p)
noncomputable def PK(e:Stmt)(f:List Expr→Expr→Pos→Bool):Bool:=if h:e.ctorIdx=5 then Stmt.Assign.elim (motive_2:=λξ=>Bool) e h f else false
theorem HL{e:Stmt}{f:List Expr→Expr→Pos→Bool}(h:PK e f=true):WJ f e:=
 (iF h).elim λq z=>Stmt.Assign.elim (motive_2:=λt=>∀q:t.ctorIdx=5,Stmt.Assign.elim (motive_2:=λξ=>Bool) t q f=true→WJ f t) e q (λts e p ξ z=>.mk ts e p z) q z
inductive WI(f:Expr→Operator→Expr→Pos→Bool):Stmt→Prop | mk (t:Expr) (op:Operator) (e:Expr) (p:Pos):f t op e p=true→WI f (.AugAssign t op e p)
noncomputable def PJ(e:Stmt)(f:Expr→Operator→Expr→Pos→Bool):Bool:=if h:e.ctorIdx=7 then Stmt.AugAssign.elim (motive_2:=λξ=>Bool) e h f else false
theorem HK{e:Stmt}{f:Expr→Operator→Expr→Pos→Bool}(h:PJ e f=true):WI f e:=
 (iF h).elim λq z=>Stmt.AugAssign.elim (motive_2:=λt=>∀q:t.ctorIdx=7,Stmt.AugAssign.elim (motive_2:=λξ=>Bool) t q f=true→WI f t) e q (λt op e p ξ z=>.mk t op e p z) q z
inductive WG(f:Expr→List Stmt→List Stmt→Pos→Bool):Stmt→Prop | mk (c:Expr) (a:List Stmt) (b:List Stmt) (p:Pos):f c a b p=true→WG f (.If c a b p)
noncomputable def PG(e:Stmt)(f:Expr→List Stmt→List Stmt→Pos→Bool):Bool:=if h:e.ctorIdx=12 then Stmt.If.elim (motive_2:=λξ=>Bool) e h f else false
theorem HH{e:Stmt}{f:Expr→List Stmt→List Stmt→Pos→Bool}(h:PG e f=true):WG f e:=
 (iF h).elim λq z=>Stmt.If.elim (motive_2:=λt=>∀q:t.ctorIdx=12,Stmt.If.elim (motive_2:=λξ=>Bool) t q f=true→WG f t) e q (λc a b p ξ z=>.mk c a b p z) q z
inductive WE(f:Expr→List Stmt→List Stmt→Pos→Bool):Stmt→Prop | mk (c:Expr) (a:List Stmt) (b:List Stmt) (p:Pos):f c a b p=true→WE f (.While c a b p)
noncomputable def PF(e:Stmt)(f:Expr→List Stmt→List Stmt→Pos→Bool):Bool:=if h:e.ctorIdx=11 then Stmt.While.elim (motive_2:=λξ=>Bool) e h f else false
theorem HF{e:Stmt}{f:Expr→List Stmt→List Stmt→Pos→Bool}(h:PF e f=true):WE f e:=
 (iF h).elim λq z=>Stmt.While.elim (motive_2:=λt=>∀q:t.ctorIdx=11,Stmt.While.elim (motive_2:=λξ=>Bool) t q f=true→WE f t) e q (λc a b p ξ z=>.mk c a b p z) q z
inductive WH(f:Expr→Expr→List Stmt→List Stmt→Pos→Bool):Stmt→Prop | mk (t:Expr) (i:Expr) (a:List Stmt) (b:List Stmt) (p:Pos):f t i a b p=true→WH f (.For t i a b p)
noncomputable def PH(e:Stmt)(f:Expr→Expr→List Stmt→List Stmt→Pos→Bool):Bool:=if h:e.ctorIdx=9 then Stmt.For.elim (motive_2:=λξ=>Bool) e h f else false
theorem HI{e:Stmt}{f:Expr→Expr→List Stmt→List Stmt→Pos→Bool}(h:PH e f=true):WH f e:=
 (iF h).elim λq z=>Stmt.For.elim (motive_2:=λt=>∀q:t.ctorIdx=9,Stmt.For.elim (motive_2:=λξ=>Bool) t q f=true→WH f t) e q (λt i a b p ξ z=>.mk t i a b p z) q z
inductive QC(f:Bool→Bool):Const→Prop | mk (x:Bool):f x=true→QC f (.bool x)
noncomputable def JY(e:Const)(f:Bool→Bool):Bool:=if h:e.ctorIdx=1 then Const.bool.elim (motive:=λξ=>Bool) e h f else false
theorem Fq{e:Const}{f:Bool→Bool}(h:JY e f=true):QC f e:=
 (iF h).elim λq z=>Const.bool.elim (motive:=λt=>∀q:t.ctorIdx=1,Const.bool.elim (motive:=λξ=>Bool) t q f=true→QC f t) e q (λx ξ z=>.mk x z) q z
inductive Wb(f:Int→Bool):Const→Prop | mk (x:Int):f x=true→Wb f (.int x)
noncomputable def PQ(e:Const)(f:Int→Bool):Bool:=if h:e.ctorIdx=2 then Const.int.elim (motive:=λξ=>Bool) e h f else false
theorem HV{e:Const}{f:Int→Bool}(h:PQ e f=true):Wb f e:=
 (iF h).elim λq z=>Const.int.elim (motive:=λt=>∀q:t.ctorIdx=2,Const.int.elim (motive:=λξ=>Bool) t q f=true→Wb f t) e q (λx ξ z=>.mk x z) q z
inductive Wa(f:Str→Bool):Const→Prop | mk (x:Str):f x=true→Wa f (.str x)
noncomputable def PP(e:Const)(f:Str→Bool):Bool:=if h:e.ctorIdx=5 then Const.str.elim (motive:=λξ=>Bool) e h f else false
theorem HU{e:Const}{f:Str→Bool}(h:PP e f=true):Wa f e:=
 (iF h).elim λq z=>Const.str.elim (motive:=λt=>∀q:t.ctorIdx=5,Const.str.elim (motive:=λξ=>Bool) t q f=true→Wa f t) e q (λx ξ z=>.mk x z) q z
noncomputable def FI{α:Type}(l:List α)(f:α→Bool):Bool:=List.rec false (λa r ξ=>r.isEmpty&&f a) l
noncomputable def Nn{α:Type}(l:List α)(f:α→α→Bool):Bool:=List.rec false (λa r ξ=>FI r (f a)) l
noncomputable def nU(v:Expr):Bool:=!qI v λg args kw ξ=>args.isEmpty&&mM g λξ ξ=>true
noncomputable def DK(sc:Scope)(v:Expr):Bool:=qI v λg args kw ξ=>args.isEmpty&&(kw.isEmpty&&mM g λx ξ=>x==("super" : Str)&&(Gi sc "super"&&decide (sc.names.lookup ("__class__" : Str)=some .free)))
noncomputable def Hv(t:Expr)(k:Nat)(f:List Str→Bool):Bool:=(decide (k=1)&&mM t λx ξ=>f [x])||(decide (k=2)&&Al t λes ξ ξ=>Nn es λa b=>mM a λx ξ=>mM b λy ξ=>f [x,y])
noncomputable def Gw(sc:Scope)(own:List Str)(sc':Scope):Bool:=
 decide (sc'.kind=.function)&&(sc'.names.all (λp=>decide (sc'.names.lookup p.1=some p.2)&&((!decide (p.2=.local)||(own.contains p.1||p.1==(".0" : Str)))&&((!decide (p.2=.cell)||own.contains p.1) &&
   (!decide (p.2=.free)||((decide (sc.names.lookup p.1=some .cell)||decide (sc.names.lookup p.1=some .free))&&!own.contains p.1))))) &&
  (own.all (λx=>(decide (sc'.names.lookup x=some .local)||decide (sc'.names.lookup x=some .cell))&&(!(x==(".0" : Str))&&(!(x==("__debug__" : Str))&&!(x==("__classdict__" : Str)))))&&decide own.Nodup))
noncomputable abbrev KA(α:Type):=Scope→List Str→α→Bool
noncomputable abbrev KE:=KA Expr
noncomputable abbrev KL:=KA (List Expr)
noncomputable def pM{α:Type}:KA (List α):=λξ ξ es=>es.isEmpty
noncomputable def iM{α:Type}(a:KA α)(l:KA (List α)):KA (List α):=λsc ns es=>List.rec false (λe es ξ=>a sc ns e&&l sc ns es) es
noncomputable def iC(a:KE):KL:=iM a pM
noncomputable def kI(a b:KE):KL:=iM a (iC b)
noncomputable def Ke:KE:=λξ ξ py=>qA py λc ξ ξ=>decide (c.ctorIdx=0)
noncomputable def Kj(b:Bool):KE:=λξ ξ py=>qA py λc ξ ξ=>JY c λx=>x==b
noncomputable def Ki(i:Int):KE:=λξ ξ py=>qA py λc ξ ξ=>PQ c λx=>decide (x=i)
noncomputable def Ka(k:Nat):KE:=λξ ξ py=>qA py λc ξ ξ=>PP c λx=>idxOf x ID==some k
noncomputable def KY(i:Nat):KE:=λsc ns py=>mM py λx ξ=>zJ sc ns x==some i
noncomputable def Kk(op:Operator)(a b:KE):KE:=λsc ns py=>HT py λl o r ξ=>decide (o=op)&&(a sc ns l&&b sc ns r)
noncomputable def Kf(a:KE):KE:=λsc ns py=>JW py λo x ξ=>decide (o=.USub)&&a sc ns x
noncomputable def Kd(a:KE):KE:=λsc ns py=>JW py λo x ξ=>decide (o=.Not)&&a sc ns x
noncomputable def yC(o:BoolOp)(l:KL):KE:=λsc ns py=>HR py λo' vs ξ=>decide (o'=o)&&l sc ns vs
noncomputable def qE(a:KE)(os:List CmpOp)(l:KL):KE:=λsc ns py=>HQ py λx os' cs ξ=>decide (os'=os)&&(a sc ns x&&l sc ns cs)
noncomputable def Kh(c a b:KE):KE:=λsc ns py=>PN py λx y z ξ=>c sc ns x&&(a sc ns y&&b sc ns z)
noncomputable def DI(l:KL):KE:=λsc ns py=>Al py λes ξ ξ=>l sc ns es
noncomputable def Kg(l:KL):KE:=λsc ns py=>HO py λes ξ=>l sc ns es
noncomputable def Bw:KE:=λsc ns py=>Dd py λks vs ξ=>ks.isEmpty&&vs.isEmpty
noncomputable def Bv(k v:KE):KE:=λsc ns py=>Dd py λks vs ξ=>FI ks λx=>x.any (k sc ns)&&iC v sc ns vs
noncomputable def DJ(a b:KE):KE:=λsc ns py=>wV py λv i ξ=>a sc ns v&&b sc ns i
noncomputable def Kc(a b:KE):KE:=λsc ns py=>wV py λv i ξ=>a sc ns v&&An i λlo hi st ξ=>lo.isNone&&(st.isNone&&hi.any (b sc ns))
noncomputable def wK(a b:KE):KE:=λsc ns py=>wV py λv i ξ=>a sc ns v&&An i λlo hi st ξ=>hi.isNone&&(st.isNone&&lo.any (b sc ns))
noncomputable def By(o:KE)(f:Nat):KE:=λsc ns py=>wW py λv a ξ=>nU v&&(o sc ns v&&idxOf a sK==some f)
noncomputable def gC(k:Nat)(l:KL):KE:=λsc ns py=>qI py λg args kw ξ=>kw.isEmpty&&(l sc ns args&&mM g λx ξ=>Cb sc x==some k)
noncomputable def nX(o:KE)(m:Nat)(l:KL):KE:=λsc ns py=>qI py λg args kw pos=>kw.isEmpty&&(decide (args.length<20)&&(l sc ns args&&wW g λv a p=>(p.endLine==pos.line)&&(nU v&&(o sc ns v&&idxOf a uN==some m))))
noncomputable def VO(m:Nat)(l:KL):KE:=λsc ns py=>qI py λg args kw pos=>kw.isEmpty&&(decide (args.length<20)&&(l sc ns args&&wW g λv a p=>(p.endLine==pos.line)&&(DK sc v&&idxOf a uN==some m)))
noncomputable def wN(elt:KE)(k:Nat)(it:KE)(cs:KL):KE:=λsc ns py=>JX py λe gs sc' ξ=>FI gs λg=>decide (g.is_async=0)&&Hv g.target k λown=>Gw sc own sc'&&(it sc ns g.iter&&(decide (g.ifs.length≤1)&&(cs sc' (ns++own) g.ifs&&elt sc' (ns++own) e)))
noncomputable def wM(elt:KE)(k:Nat)(it:KE)(k2:Nat)(it2:KE):KE:=λsc ns py=>JX py λe gs sc' ξ=>Nn gs λg g2=>decide (g.is_async=0)&&(decide (g2.is_async=0)&&(g.ifs.isEmpty&&(g2.ifs.isEmpty&&Hv g.target k λown=>Hv g2.target k2 λown2 =>
   Gw sc (own++own2) sc'&&(own2.all (λx=>!(ns++own).contains x)&&(it sc ns g.iter&&(it2 sc' (ns++own) g2.iter&&elt sc' (ns++own++own2) e))))))
noncomputable def Cv(py:Expr):Bool:=decide (py.ctorIdx=23)||(decide (py.ctorIdx=20)||decide (py.ctorIdx=16))
noncomputable def KZ(a:KE):KE:=λsc ns py=>Cv py&&a sc ns py
noncomputable def chE:Ex→KE:=Ex.rec (motive_1:=λξ=>KE) (motive_2:=λξ=>KL) (motive_3:=λξ=>KE) (motive_4:=λξ=>KL) (motive_5:=λξ=>KE)
 Ke Kj Ki Ka KY (λo ξ ξ=>Kk o) (λξ=>Kf) (λξ ξ a b=>yC .And (kI a b)) (λξ o ξ a b=>qE a [o] (iC b)) (λξ ξ ξ=>Kh) (λξ=>DI) (λξ=>Kg) Bw (λξ ξ=>Bv) (λξ ξ=>DJ) (λξ ξ=>wK) (λξ ξ=>Kc) (λξ f a=>By a f)
 (λk ξ=>gC k) (λξ a=>gC 0 (iC (gC 8 (iC a)))) (λξ a=>gC 5 (iC (gC 8 (iC a)))) (λξ m ξ o=>nX o m) (λξ ξ ξ o a b=>nX o 1 (iC (gC 1 (kI a b)))) (λξ k ξ ξ e i c=>wN e k i c) (λξ k ξ k2 ξ e i i2=>wM e k i k2 i2)
 pM (λξ ξ=>iM) (λξ=>Kd) (λo ξ=>yC o) (λξ o ξ a b=>qE a [o] (iC b)) (λξ o ξ o2 ξ a b c=>qE a [o,o2] (kI b c)) (λξ=>KZ) pM (λξ ξ=>iM)
 (λξ a=>gC 1 (iC a)) (λξ ξ a b=>gC 1 (kI a b)) (λξ ξ ξ a b c=>gC 9 (iM a (kI b c))) (λξ a=>a)
noncomputable def wR:Exs→KL:=Exs.rec (motive_1:=λξ=>KE) (motive_2:=λξ=>KL) (motive_3:=λξ=>KE) (motive_4:=λξ=>KL) (motive_5:=λξ=>KE)
 Ke Kj Ki Ka KY (λo ξ ξ=>Kk o) (λξ=>Kf) (λξ ξ a b=>yC .And (kI a b)) (λξ o ξ a b=>qE a [o] (iC b)) (λξ ξ ξ=>Kh) (λξ=>DI) (λξ=>Kg) Bw (λξ ξ=>Bv) (λξ ξ=>DJ) (λξ ξ=>wK) (λξ ξ=>Kc) (λξ f a=>By a f)
 (λk ξ=>gC k) (λξ a=>gC 0 (iC (gC 8 (iC a)))) (λξ a=>gC 5 (iC (gC 8 (iC a)))) (λξ m ξ o=>nX o m) (λξ ξ ξ o a b=>nX o 1 (iC (gC 1 (kI a b)))) (λξ k ξ ξ e i c=>wN e k i c) (λξ k ξ k2 ξ e i i2=>wM e k i k2 i2)
 pM (λξ ξ=>iM) (λξ=>Kd) (λo ξ=>yC o) (λξ o ξ a b=>qE a [o] (iC b)) (λξ o ξ o2 ξ a b c=>qE a [o,o2] (kI b c)) (λξ=>KZ) pM (λξ ξ=>iM)
 (λξ a=>gC 1 (iC a)) (λξ ξ a b=>gC 1 (kI a b)) (λξ ξ ξ a b c=>gC 9 (iM a (kI b c))) (λξ a=>a)
noncomputable def chC:Ce→KE:=Ce.rec (motive_1:=λξ=>KE) (motive_2:=λξ=>KL) (motive_3:=λξ=>KE) (motive_4:=λξ=>KL) (motive_5:=λξ=>KE)
 Ke Kj Ki Ka KY (λo ξ ξ=>Kk o) (λξ=>Kf) (λξ ξ a b=>yC .And (kI a b)) (λξ o ξ a b=>qE a [o] (iC b)) (λξ ξ ξ=>Kh) (λξ=>DI) (λξ=>Kg) Bw (λξ ξ=>Bv) (λξ ξ=>DJ) (λξ ξ=>wK) (λξ ξ=>Kc) (λξ f a=>By a f)
 (λk ξ=>gC k) (λξ a=>gC 0 (iC (gC 8 (iC a)))) (λξ a=>gC 5 (iC (gC 8 (iC a)))) (λξ m ξ o=>nX o m) (λξ ξ ξ o a b=>nX o 1 (iC (gC 1 (kI a b)))) (λξ k ξ ξ e i c=>wN e k i c) (λξ k ξ k2 ξ e i i2=>wM e k i k2 i2)
 pM (λξ ξ=>iM) (λξ=>Kd) (λo ξ=>yC o) (λξ o ξ a b=>qE a [o] (iC b)) (λξ o ξ o2 ξ a b c=>qE a [o,o2] (kI b c)) (λξ=>KZ) pM (λξ ξ=>iM)
 (λξ a=>gC 1 (iC a)) (λξ ξ a b=>gC 1 (kI a b)) (λξ ξ ξ a b c=>gC 9 (iM a (kI b c))) (λξ a=>a)
noncomputable def SQ:Ces→KL:=Ces.rec (motive_1:=λξ=>KE) (motive_2:=λξ=>KL) (motive_3:=λξ=>KE) (motive_4:=λξ=>KL) (motive_5:=λξ=>KE)
 Ke Kj Ki Ka KY (λo ξ ξ=>Kk o) (λξ=>Kf) (λξ ξ a b=>yC .And (kI a b)) (λξ o ξ a b=>qE a [o] (iC b)) (λξ ξ ξ=>Kh) (λξ=>DI) (λξ=>Kg) Bw (λξ ξ=>Bv) (λξ ξ=>DJ) (λξ ξ=>wK) (λξ ξ=>Kc) (λξ f a=>By a f)
 (λk ξ=>gC k) (λξ a=>gC 0 (iC (gC 8 (iC a)))) (λξ a=>gC 5 (iC (gC 8 (iC a)))) (λξ m ξ o=>nX o m) (λξ ξ ξ o a b=>nX o 1 (iC (gC 1 (kI a b)))) (λξ k ξ ξ e i c=>wN e k i c) (λξ k ξ k2 ξ e i i2=>wM e k i k2 i2)
 pM (λξ ξ=>iM) (λξ=>Kd) (λo ξ=>yC o) (λξ o ξ a b=>qE a [o] (iC b)) (λξ o ξ o2 ξ a b c=>qE a [o,o2] (kI b c)) (λξ=>KZ) pM (λξ ξ=>iM)
 (λξ a=>gC 1 (iC a)) (λξ ξ a b=>gC 1 (kI a b)) (λξ ξ ξ a b c=>gC 9 (iM a (kI b c))) (λξ a=>a)
noncomputable def chI:Ie→KE:=Ie.rec (motive_1:=λξ=>KE) (motive_2:=λξ=>KL) (motive_3:=λξ=>KE) (motive_4:=λξ=>KL) (motive_5:=λξ=>KE)
 Ke Kj Ki Ka KY (λo ξ ξ=>Kk o) (λξ=>Kf) (λξ ξ a b=>yC .And (kI a b)) (λξ o ξ a b=>qE a [o] (iC b)) (λξ ξ ξ=>Kh) (λξ=>DI) (λξ=>Kg) Bw (λξ ξ=>Bv) (λξ ξ=>DJ) (λξ ξ=>wK) (λξ ξ=>Kc) (λξ f a=>By a f)
 (λk ξ=>gC k) (λξ a=>gC 0 (iC (gC 8 (iC a)))) (λξ a=>gC 5 (iC (gC 8 (iC a)))) (λξ m ξ o=>nX o m) (λξ ξ ξ o a b=>nX o 1 (iC (gC 1 (kI a b)))) (λξ k ξ ξ e i c=>wN e k i c) (λξ k ξ k2 ξ e i i2=>wM e k i k2 i2)
 pM (λξ ξ=>iM) (λξ=>Kd) (λo ξ=>yC o) (λξ o ξ a b=>qE a [o] (iC b)) (λξ o ξ o2 ξ a b c=>qE a [o,o2] (kI b c)) (λξ=>KZ) pM (λξ ξ=>iM)
 (λξ a=>gC 1 (iC a)) (λξ ξ a b=>gC 1 (kI a b)) (λξ ξ ξ a b c=>gC 9 (iM a (kI b c))) (λξ a=>a)
noncomputable abbrev Tr(sc:Scope)(ns:List Str)(py:Expr)(e:Ex):Prop:=chE e sc ns py=true
noncomputable abbrev Trs(sc:Scope)(ns:List Str)(py:List Expr)(e:Exs):Prop:=wR e sc ns py=true
noncomputable abbrev TrC(sc:Scope)(ns:List Str)(py:Expr)(e:Ce):Prop:=chC e sc ns py=true
noncomputable abbrev LV(sc:Scope)(ns:List Str)(py:List Expr)(e:Ces):Prop:=SQ e sc ns py=true
noncomputable abbrev TrI(sc:Scope)(ns:List Str)(py:Expr)(e:Ie):Prop:=chI e sc ns py=true
section
variable{sc:Scope}{ns:List Str}{py:Expr}{pys:List Expr}{a b c:Ex}{es:Exs}{cs:Ces}{ce:Ce}{i j:Ie}{k k2:Nat}
theorem YM(h:Tr sc ns py .non):Ke sc ns py=true:=h
theorem YU{b:Bool}(h:Tr sc ns py (.boo b)):Kj b sc ns py=true:=h
theorem YR{n:Int}(h:Tr sc ns py (.int n)):Ki n sc ns py=true:=h
theorem YL(h:Tr sc ns py (.str k)):Ka k sc ns py=true:=h
theorem YJ(h:Tr sc ns py (.var k)):KY k sc ns py=true:=h
theorem YV{o:Operator}(h:Tr sc ns py (.bin o a b)):Kk o (chE a) (chE b) sc ns py=true:=h
theorem YN(h:Tr sc ns py (.neg a)):Kf (chE a) sc ns py=true:=h
theorem TU(h:Tr sc ns py (.and2 a b)):yC .And (kI (chE a) (chE b)) sc ns py=true:=h
theorem YT{q:CmpOp}(h:Tr sc ns py (.cmp a q b)):qE (chE a) [q] (iC (chE b)) sc ns py=true:=h
theorem YQ(h:Tr sc ns py (.ite ce a b)):Kh (chC ce) (chE a) (chE b) sc ns py=true:=h
theorem YK(h:Tr sc ns py (.tup es)):DI (wR es) sc ns py=true:=h
theorem YO(h:Tr sc ns py (.lst es)):Kg (wR es) sc ns py=true:=h
theorem TQ(h:Tr sc ns py .dct0):Bw sc ns py=true:=h
theorem TP(h:Tr sc ns py (.dct1 a b)):Bv (chE a) (chE b) sc ns py=true:=h
theorem YS(h:Tr sc ns py (.idx a b)):DJ (chE a) (chE b) sc ns py=true:=h
theorem Nw(h:Tr sc ns py (.sfrom a b)):wK (chE a) (chE b) sc ns py=true:=h
theorem VS(h:Tr sc ns py (.sto a b)):Kc (chE a) (chE b) sc ns py=true:=h
theorem TT(h:Tr sc ns py (.attr a k)):By (chE a) k sc ns py=true:=h
theorem TS(h:Tr sc ns py (.call k es)):gC k (wR es) sc ns py=true:=h
theorem Iy(h:Tr sc ns py (.lenSet a)):gC 0 (iC (gC 8 (iC (chE a)))) sc ns py=true:=h
theorem Ix(h:Tr sc ns py (.srtSet a)):gC 5 (iC (gC 8 (iC (chE a)))) sc ns py=true:=h
theorem Ny(h:Tr sc ns py (.meth a k es)):nX (chE a) k (wR es) sc ns py=true:=h
theorem TN(h:Tr sc ns py (.extR a b c)):nX (chE a) 1 (iC (gC 1 (kI (chE b) (chE c)))) sc ns py=true:=h
theorem OB(h:Tr sc ns py (.comp1 a k i cs)):wN (chE a) k (chI i) (SQ cs) sc ns py=true:=h
theorem OA(h:Tr sc ns py (.comp2 a k i k2 j)):wM (chE a) k (chI i) k2 (chI j) sc ns py=true:=h
theorem VT(h:Trs sc ns pys .nil):pM sc ns pys=true:=h
theorem Nz(h:Trs sc ns pys (.cons a es)):iM (chE a) (wR es) sc ns pys=true:=h
theorem aAe(h:TrC sc ns py (.not ce)):Kd (chC ce) sc ns py=true:=h
theorem aAg{o:BoolOp}(h:TrC sc ns py (.bop o cs)):yC o (SQ cs) sc ns py=true:=h
theorem aAf{q:CmpOp}(h:TrC sc ns py (.cmp a q b)):qE (chE a) [q] (iC (chE b)) sc ns py=true:=h
theorem ZS{q q2:CmpOp}(h:TrC sc ns py (.cmp2 a q b q2 c)):qE (chE a) [q,q2] (kI (chE b) (chE c)) sc ns py=true:=h
theorem ZR(h:TrC sc ns py (.val a)):KZ (chE a) sc ns py=true:=h
theorem SU(h:LV sc ns pys .nil):pM sc ns pys=true:=h
theorem Fi(h:LV sc ns pys (.cons ce cs)):iM (chC ce) (SQ cs) sc ns pys=true:=h
theorem TH(h:TrI sc ns py (.rng1 a)):gC 1 (iC (chE a)) sc ns py=true:=h
theorem TG(h:TrI sc ns py (.rng2 a b)):gC 1 (kI (chE a) (chE b)) sc ns py=true:=h
theorem Xg(h:TrI sc ns py (.zip a b c)):gC 9 (iM (chE a) (kI (chE b) (chE c))) sc ns py=true:=h
theorem rOf(h:TrI sc ns py (.of a)):chE a sc ns py=true:=h
end
inductive QB{α:Type}(P:α→Prop)(Q:List α→Prop):List α→Prop | mk (e:α) (es:List α):P e→Q es→QB P Q (e::es)
inductive WV{α:Type}(P:α→Prop):List α→Prop | mk (e:α):P e→WV P [e]
inductive Zc{α:Type}(P Q:α→Prop):List α→Prop | mk (e f:α):P e→Q f→Zc P Q [e,f]
inductive Pl{α:Type}(P Q R:α→Prop):List α→Prop | mk (e f g:α):P e→Q f→R g→Pl P Q R [e,f,g]
section
variable{sc:Scope}{ns:List Str}
theorem jR{α:Type}{pys:List α}(h:pM sc ns pys=true):pys=[]:=cF.mp h
theorem gX{α:Type}{a:KA α}{l:KA (List α)}{pys:List α}(h:iM a l sc ns pys=true):QB (λe=>a sc ns e=true) (λes=>l sc ns es=true) pys:=
 List.rec (motive:=λpys=>iM a l sc ns pys=true→QB (λe=>a sc ns e=true) (λes=>l sc ns es=true) pys) (λh=>absurd h bC) (λe es ξ h=>.mk e es (and2 h).1 (and2 h).2) pys h
variable{py:Expr}{pys:List Expr}{a b c:KE}{l:KL}
theorem pL(h:iC a sc ns pys=true):WV (λe=>a sc ns e=true) pys:=(gX h).casesOn λe es x y=>by rw[jR y];exact .mk e x
theorem AQ(h:kI a b sc ns pys=true):Zc (λe=>a sc ns e=true) (λe=>b sc ns e=true) pys:=(gX h).casesOn λe es x y=>(pL y).casesOn λf y=>.mk e f x y
theorem VN(h:iM a (kI b c) sc ns pys=true):Pl (λe=>a sc ns e=true) (λe=>b sc ns e=true) (λe=>c sc ns e=true) pys:=(gX h).casesOn λe es x y=>(AQ y).casesOn λf g y z=>.mk e f g x y z
inductive UB(sc:Scope)(k:Nat)(Q:List Expr→Prop):Expr→Prop | mk (x:Str) (p pos:Pos) (args:List Expr):Cb sc x=some k→Q args→UB sc k Q (.Call (.Name x p) args [] pos)
theorem Bx{k:Nat}(h:gC k l sc ns py=true):UB sc k (λes=>l sc ns es=true) py:=(oZ h).casesOn λg args kw pos z=>by
 obtain⟨z1,z2⟩:=and2 z
 obtain⟨z2,z3⟩:=and2 z2
 obtain rfl:=cF.mp z1
 exact(iL z3).casesOn λx p z=>.mk x p pos args (eq_of_beq z) z2
inductive Pu(o:Expr→Prop)(m:Nat)(Q:List Expr→Prop):Expr→Prop | mk (v:Expr) (a:Str) (p pos:Pos) (args:List Expr):(p.endLine==pos.line)=true→args.length<20→o v→idxOf a uN=some m→Q args→Pu o m Q (.Call (.Attribute v a p) args [] pos)
theorem wL{m:Nat}(h:nX a m l sc ns py=true):Pu (λv=>nU v=true∧a sc ns v=true) m (λes=>l sc ns es=true) py:=(oZ h).casesOn λg args kw pos z=>by
 obtain⟨z1,z2⟩:=and2 z
 obtain⟨z2,z3⟩:=and2 z2
 obtain⟨z3,z4⟩:=and2 z3
 obtain rfl:=cF.mp z1
 exact(kZ z4).casesOn λx at_ p z=>.mk x at_ p pos args (and2 z).1 (of_decide_eq_true z2) ⟨(and2 (and2 z).2).1,(and2 (and2 (and2 z).2).2).1⟩ (eq_of_beq (and2 (and2 (and2 z).2).2).2) z3
theorem FH{m:Nat}(h:VO m l sc ns py=true):Pu (λv=>DK sc v=true) m (λes=>l sc ns es=true) py:=(oZ h).casesOn λg args kw pos z=>by
 obtain⟨z1,z2⟩:=and2 z
 obtain⟨z2,z3⟩:=and2 z2
 obtain⟨z3,z4⟩:=and2 z3
 obtain rfl:=cF.mp z1
 exact(kZ z4).casesOn λx at_ p z=>.mk x at_ p pos args (and2 z).1 (of_decide_eq_true z2) (and2 (and2 z).2).1 (eq_of_beq (and2 (and2 z).2).2) z3
end
noncomputable def DM(e:Expr):Bool:=decide (e.ctorIdx=8)
noncomputable def JE(n:Nat):Bool:=decide (n∈[0,2,3,5,6,8,15,16,19,20,21,23,24,25])
structure lU(py:Expr):Prop where
 star:∀rest env,starEach (py::rest) env=(false,eval py env)::starEach rest env
 mark:∀op,behindInMarks op py=false
 slice:∀o i,subscripted py false o i=operate [o,i] (getItem o i)
 fold:∀env x,foldedSetIterable py env x=pure x
 aug:∀ov iv new,augStore py ov iv new=(do holding [new,ov,iv] (setItem ov iv new);release [new,ov,iv] [];pure .next)
 swaps:DM py=false→∀t line env,swapsWith py t line env=pure false
theorem lU.of{py:Expr}(h:JE py.ctorIdx=true):lU py:=by
 cases py<;>first | exact absurd h bC | exact⟨λξ ξ=>rfl,λξ=>rfl,λξ ξ=>rfl,λξ ξ=>rfl,λξ ξ ξ=>rfl,λq ξ ξ ξ=>by first | rfl | exact absurd q.symm bC⟩
section
variable{sc:Scope}{ns:List Str}{py:Expr}
theorem oR{n:Nat}{f:py.ctorIdx=n→Bool}(h:(if q:py.ctorIdx=n then f q else false)=true)(k:JE n=true):lU py:=.of ((iF h).elim λq ξ=>by rw[q];exact k)
theorem oY{f}(h:qA py f=true):lU py:=oR h rfl
theorem HM{f}(h:mM py f=true):lU py:=oR h rfl
theorem LS{f}(h:HT py f=true):lU py:=oR h rfl
theorem PL{f}(h:JW py f=true):lU py:=oR h rfl
theorem LR{f}(h:HR py f=true):lU py:=oR h rfl
theorem LQ{f}(h:HQ py f=true):lU py:=oR h rfl
theorem PM{f}(h:PN py f=true):lU py:=oR h rfl
theorem LN{f}(h:Al py f=true):lU py:=oR h rfl
theorem LO{f}(h:HO py f=true):lU py:=oR h rfl
theorem CP{f}(h:Dd py f=true):lU py:=oR h rfl
theorem wU{f}(h:wV py f=true):lU py:=oR h rfl
theorem LT{f}(h:wW py f=true):lU py:=oR h rfl
theorem iO{f}(h:qI py f=true):lU py:=oR h rfl
theorem Fp{f}(h:JX py f=true):lU py:=oR h rfl
theorem Tr.plain{e:Ex}(h:Tr sc ns py e):lU py:=by
 cases e with
 |non=>exact oY (YM h)
 |boo=>exact oY (YU h)
 |int=>exact oY (YR h)
 |str=>exact oY (YL h)
 |var=>exact HM (YJ h)
 |bin=>exact LS (YV h)
 |neg=>exact PL (YN h)
 |and2=>exact LR (TU h)
 |cmp=>exact LQ (YT h)
 |ite=>exact PM (YQ h)
 |tup=>exact LN (YK h)
 |lst=>exact LO (YO h)
 |dct0=>exact CP (TQ h)
 |dct1=>exact CP (TP h)
 |idx=>exact wU (YS h)
 |sfrom=>exact wU (Nw h)
 |sto=>exact wU (VS h)
 |attr=>exact LT (TT h)
 |call=>exact iO (TS h)
 |lenSet=>exact iO (Iy h)
 |srtSet=>exact iO (Ix h)
 |meth=>exact iO (Ny h)
 |extR=>exact iO (TN h)
 |comp1=>exact Fp (OB h)
 |comp2=>exact Fp (OA h)
theorem LL{a:Str}{env:Env}{wh:Sem Value}(q:¬py.ctorIdx=16):attributeBase py a env wh=wh:=by
 cases py<;>first | rfl | exact absurd rfl q
theorem LK{g:Expr}{args kw pos}{a:Str}{env:Env}{wh:Sem Value}(q:¬g.ctorIdx=23):attributeBase (.Call g args kw pos) a env wh=wh:=by
 cases g<;>first | rfl | exact absurd rfl q
theorem Tr.base{e:Ex}(h:Tr sc ns py e)(hn:nU py=true)(a:Str)(env:Env)(wh:Sem Value):attributeBase py a env wh=wh:=by
 by_cases q:py.ctorIdx=16
 ·refine Expr.Call.elim (motive_1:=λpy=>nU py=true→attributeBase py a env wh=wh) py q (λg args kw pos hn=>?_) hn
  by_cases q:g.ctorIdx=23
  ·refine Expr.Name.elim (motive_1:=λg=>nU (.Call g args kw pos)=true→attributeBase (.Call g args kw pos) a env wh=wh) g q (λx p hn=>?_) hn
   cases args<;>first | exact absurd hn bC | rfl
  ·exact LK q
 ·exact LL q
end
noncomputable def No(i:Nat):KE:=λsc ns py=>mM py λx ξ=>zJ sc ns x==some i&&(decide (sc.names.lookup x=some .local)||decide (sc.names.lookup x=some .cell))
noncomputable def Gh(o:Ex)(f:Nat):KE:=λsc ns py=>wW py λv a ξ=>chE o sc ns v&&idxOf a sK==some f
noncomputable def chT:Tg→KE:=Tg.rec (motive_1:=λξ=>KE) (motive_2:=λξ=>KL) No Gh (λa i=>DJ (chE a) (chE i)) (λξ=>DI) pM (λξ ξ=>iM)
noncomputable def Vx:Tgs→KL:=Tgs.rec (motive_1:=λξ=>KE) (motive_2:=λξ=>KL) No Gh (λa i=>DJ (chE a) (chE i)) (λξ=>DI) pM (λξ ξ=>iM)
noncomputable abbrev TrT(sc:Scope)(ns:List Str)(py:Expr)(e:Tg):Prop:=chT e sc ns py=true
noncomputable abbrev Dg(sc:Scope)(ns:List Str)(py:List Expr)(e:Tgs):Prop:=Vx e sc ns py=true
noncomputable def JU(e:Expr):Bool:=!Al e λvs ξ ξ=>vs.all (constantsAlone 8)&&!vs.all (foldedForSure 8)
noncomputable def isC(e:Ex):Bool:=Ex.casesOn (motive_1:=λξ=>Bool) e false (λξ=>false) (λξ=>false) (λξ=>false) (λξ=>false) (λξ ξ ξ=>false) (λξ=>false) (λξ ξ=>false) (λξ ξ ξ=>false) (λξ ξ ξ=>false) (λξ=>false) (λξ=>false) false (λξ ξ=>false) (λξ ξ=>false) (λξ ξ=>false) (λξ ξ=>false) (λξ ξ=>false) (λξ ξ=>false) (λξ=>false) (λξ=>false) (λξ ξ ξ=>false) (λξ ξ ξ=>false) (λξ ξ ξ ξ=>true) (λξ ξ ξ ξ ξ=>true)
noncomputable abbrev KS:=KA Stmt
noncomputable abbrev KB:=KA (List Stmt)
noncomputable def Mj(e:Ex):KS:=λsc ns py=>JV py λx ξ=>!DM x&&chE e sc ns x
noncomputable def UX(e:Ex):KS:=λsc ns py=>HG py λx ξ=>x.any (chE e sc ns)
noncomputable def Mf:KS:=λsc ns py=>HG py λx ξ=>x.isNone
noncomputable def Uc(t:Tg)(e:Ex):KS:=λsc ns py=>PK py λts x ξ=>FI ts λy=>JU x&&((DM x==isC e)&&(chT t sc ns y&&chE e sc ns x))
noncomputable def Ub(o i:Ex)(op:Operator)(e:Ex):KS:=λsc ns py=>PJ py λt op' x ξ=>decide (op'=op)&&(chE e sc ns x&&wV t λv j ξ=>chE o sc ns v&&chE i sc ns j)
noncomputable def UY(c:Ce)(a b:KB):KS:=λsc ns py=>PG py λx y z ξ=>chC c sc ns x&&(a sc ns y&&b sc ns z)
noncomputable def UV(c:Ce)(a:KB):KS:=λsc ns py=>PF py λx y z ξ=>z.isEmpty&&(chC c sc ns x&&a sc ns y)
noncomputable def Mi(t:Tg)(i:Ie)(a:KB):KS:=λsc ns py=>PH py λx y z u ξ=>u.isEmpty&&(chT t sc ns x&&(chI i sc ns y&&a sc ns z))
noncomputable def chS:St→KS:=St.rec (motive_1:=λξ=>KS) (motive_2:=λξ=>KB) Mj UX Mf Uc Ub (λc ξ ξ=>UY c) (λc ξ=>UV c) (λt i ξ=>Mi t i) pM (λξ ξ=>iM)
noncomputable def chB:Bk→KB:=Bk.rec (motive_1:=λξ=>KS) (motive_2:=λξ=>KB) Mj UX Mf Uc Ub (λc ξ ξ=>UY c) (λc ξ=>UV c) (λt i ξ=>Mi t i) pM (λξ ξ=>iM)
noncomputable abbrev TrS(sc:Scope)(ns:List Str)(py:Stmt)(e:St):Prop:=chS e sc ns py=true
noncomputable abbrev TrB(sc:Scope)(ns:List Str)(py:List Stmt)(e:Bk):Prop:=chB e sc ns py=true
end
noncomputable abbrev P:Program:=PySem.Challenge.pw_no0327_01
noncomputable abbrev no:Addr→Prop:=λξ=>False
noncomputable abbrev lV(its:Array Value)(n:Nat):Obj:={cls:=.type "tuple",data:=.seq its n}
structure yJ(o:Obj):Prop where
 tup:∀its n,o≠lV its n
 inst:∀C dx,o≠instObj C dx
theorem nO{o:Obj}{es n}(h:o.data=.dict es n):yJ o:=⟨λξ ξ e=>(by subst e;cases h),λξ ξ e=>(by subst e;cases h)⟩
theorem wH{o:Obj}{v}(h:o.data=.cell v):yJ o:=⟨λξ ξ e=>(by subst e;cases h),λξ ξ e=>(by subst e;cases h)⟩
theorem oU{o:Obj}{vs}(h:o.data=.fields vs):yJ o:=⟨λξ ξ e=>(by subst e;cases h),λξ ξ e=>(by subst e;cases h)⟩
inductive mU(X:Pk)(φ:List Addr)(h:Heap):Option Value→V→Prop
 |unset (o:Option Value):mU X φ h o .unset
 |mk (v:Value) (d:V):Rep X φ h v d→mU X φ h (some v) d
inductive Ps(X:Pk)(φ:List Addr)(h:Heap)(a:Addr):Prop | mk (o:Obj):a∉φ→X.h0.get? a=none→h.get? a=some o→yJ o→Ps X φ h a
inductive Tv(X:Pk)(φ:List Addr)(h:Heap)(l:Addr)(sc:Scope)(ns:List Str)(ρ:List V):Prop
 |mk (m:Str→Option Value):h.Ns l m→(∀x i d,(x==(".0" : Str))=false→sc.names.lookup x=some .local→gK x ns=some i→ρ[i]?=some d→mU X φ h (m x) d)→Tv X φ h l sc ns ρ
inductive UA(X:Pk)(φ:List Addr)(h:Heap)(S:Addr→Prop)(cs:List (Str×Addr))(sc:Scope)(ns:List Str)(ρ:List V)(x:Str):Prop
 |mk (c:Addr) (v:Option Value):cs.lookup x=some c→h.IsCell c v→(sc.names.lookup x=some .cell→S c)→(∀i d,gK x ns=some i→ρ[i]?=some d→mU X φ h v d)→UA X φ h S cs sc ns ρ x
structure fW(X:Pk)(S:Addr→Prop)(φ:List Addr)(env:Env)(sc:Scope)(ns:List Str)(ρ:List V)(h:Heap):Prop where
 kind:env.scope.kind=.function
 glob:env.globals=mainGlobals
 blt:env.builtins=builtinsNs
 loc:∀x,sc.names.lookup x=some .local→env.kindOf x=some .local
 cel:∀x,sc.names.lookup x=some .cell→env.kindOf x=some .cell
 fre:∀x,sc.names.lookup x=some .free→env.kindOf x=some .cell∨env.kindOf x=some .free
 glo:∀x,sc.names.lookup x=some .globalImplicit→env.kindOf x=some .globalImplicit
 len:ρ.length=ns.length
 tab:Tv X φ h env.locals sc ns ρ
 cell:∀x,sc.names.lookup x=some .cell∨sc.names.lookup x=some .free→UA X φ h S env.cells sc ns ρ x
 apart:∀x y c,env.cells.lookup x=some c→env.cells.lookup y=some c→x=y
 own:S env.locals
 ownOk:∀a,S a→Ps X φ h a
structure lM(r:Nat)(A:Around):Prop where
 hand:A.handled=none
 depth:A.depth+3*r≤700
 units:A.units+30*r≤9000
section
variable{X:Pk}{S S':Addr→Prop}{φ φ' φ'':List Addr}{w w' w'':W}{s s' s'':Shared}
theorem AX{h h':Heap}{a:Addr}(k:∀o,h.get? a=some o→h'.get? a=some o)(e:h'.get? a=none):h.get? a=none:=by
 cases q:h.get? a with
 |none=>rfl
 |some o=>rw[k _ q] at e;cases e
theorem sJ{h h':Heap}{a:Addr}(k:(h.get? a).isSome=true→(h'.get? a).isSome=true)(e:h'.get? a=none):h.get? a=none:=by
 cases q:h.get? a with
 |none=>rfl
 |some o=>rw[q,e] at k;exact absurd (k rfl) bC
theorem tU{h:Heap}{a:Addr}(l:h.objs.size≤a):h.get? a=none:=by
 cases q:h.get? a with
 |none=>rfl
 |some o=>exact absurd (cY q) (dM.mpr l)
theorem iA(h:Heap):h.get? h.objs.size=none:=tU (aO _)
theorem iB{h:Heap}{a:Addr}{o:Obj}(e:h.get? a=some o):(h.get? a).isSome=true:=by rw[e];rfl
theorem lX{h h':Heap}{a:Addr}(k:∀o,h.get? a=some o→h'.get? a=some o)(e:(h.get? a).isSome=true):(h'.get? a).isSome=true:=(cW.mp e).elim λo e=>iB (k o e)
theorem Cst.notBan(C:Cst X φ w s){a:Addr}(h:s.heap.get? a=none):¬X.ban a:=λq=>by have:=C.ban a q;rw[h] at this;cases this
theorem Cst.notMem(C:Cst X φ w s){a:Addr}(h:s.heap.get? a=none):a∉φ:=λq=>by have:=C.alive a q;rw[h] at this;cases this
theorem Cst.notBase(C:Cst X φ w s){a:Addr}(h:s.heap.get? a=none):X.h0.get? a=none:=AX (C.base a) h
theorem gQ{a:Addr}(h:a∉φ):¬Gf φ w a:=λ⟨_,_,e⟩=>h (aF e)
theorem fR.keptM(C:Cst X φ w s)(T:fR X S φ w s φ' w' s')(hS:∀a o,S a→s.heap.get? a=some o→yJ o):kJ X φ φ' s.heap s'.heap:=
 ⟨T.pre,λa n its e ξ=>T.keep a _ e (nT C e tQ) λq=>(hS a _ q e).tup _ _ rfl,λa C' dx e=>T.keep a _ e (nT C e qZ) λq=>(hS a _ q e).inst _ _ rfl⟩
theorem fR.kept(C:Cst X φ w s)(T:fR X no φ w s φ' w' s'):kJ X φ φ' s.heap s'.heap:=T.keptM C λξ ξ q=>q.elim
theorem Rep.step(C:Cst X φ w s)(T:fR X no φ w s φ' w' s'){v:Value}{d:V}(r:Rep X φ s.heap v d):Rep X φ' s'.heap v d:=r.keeps (T.kept C)
theorem fU.step(C:Cst X φ w s)(T:fR X no φ w s φ' w' s'){v:List Value}{d:List V}(r:fU X φ s.heap v d):fU X φ' s'.heap v d:=r.keeps (T.kept C)
theorem He.refl(w:W):He w w:=⟨aO _,λξ ξ e=>e⟩
theorem He.trans(a:He w w')(b:He w' w''):He w w'':=
 ⟨aE a.next b.next,λn hn e=>a.get n hn (b.get n (aM hn a.next) e)⟩
theorem Cst.toks(C:Cst X φ w s)(k:Nat):Cst X φ w {s with toks:=k}:=⟨C.len,C.nd,C.cell,C.alive,C.fresh,C.base,C.gens,C.os,C.ban⟩
theorem fR.toks(T:fR X S φ w s φ' w' s')(k:Nat):fR X S φ w s φ' w' {s' with toks:=k}:=⟨T.pre,T.len,T.cst.toks k,T.keep,T.newf,T.alive,T.mono⟩
theorem AB{P:Prop}{n:Nat}{a:Addr}(e:φ[n]?=some a)(h:φ.length≤n):P:=absurd (aB.mp e).1 (dM.mpr h)
theorem fR.refl(C:Cst X φ w s):fR X S φ w s φ w s:=⟨cA _,C.len,C,λξ ξ e ξ ξ=>e,λn a e h=>AB e h,λξ e=>e,.refl w⟩
theorem fR.get_back(T:fR X S φ w s φ' w' s'){n:Nat}{a:Addr}(ha:φ'[n]?=some a)(e:(s.heap.get? a).isSome=true):n<φ.length∧φ[n]?=some a:=by
 by_cases hlt:n<φ.length
 ·obtain⟨t,rfl⟩:=T.pre
  rw[aJ hlt] at ha
  exact⟨hlt,ha⟩
 ·rw[T.newf n a ha (dM.mp hlt)] at e;cases e
theorem fR.mem_back(T:fR X S φ w s φ' w' s'){a:Addr}(h:a∈φ')(e:(s.heap.get? a).isSome=true):a∈φ:=(List.mem_iff_getElem?.mp h).elim λn ha=>aF (T.get_back ha e).2
theorem fR.live_back(T:fR X S φ w s φ' w' s'){a:Addr}{o:Obj}(e:s.heap.get? a=some o)(hl:¬Gf φ w a):¬Gf φ' w' a:=
 λ⟨n,hn,ha⟩=>have q:=T.get_back ha (iB e);hl ⟨n,T.mono.get n (T.len▸q.1) hn,q.2⟩
theorem fR.trans(T:fR X S φ w s φ' w' s')(U:fR X S φ' w' s' φ'' w'' s''):fR X S φ w s φ'' w'' s'' where
 pre:=T.pre.trans U.pre
 len:=T.len
 cst:=U.cst
 keep a o e hl hs:=U.keep a o (T.keep a o e hl hs) (T.live_back e hl) hs
 newf n a ha hn:=by
  by_cases hlt:n<φ'.length
  ·obtain⟨t,rfl⟩:=U.pre
   rw[aJ hlt] at ha
   exact T.newf n a ha hn
  ·exact sJ (T.alive a) (U.newf n a ha (dM.mp hlt))
 alive a e:=U.alive a (T.alive a e)
 mono:=T.mono.trans U.mono
theorem fR.sub(T:fR X S φ w s φ' w' s')(hS:∀a,S a→s.heap.get? a=none∨S' a):fR X S' φ w s φ' w' s':=
 ⟨T.pre,T.len,T.cst,λa o e hl hn=>T.keep a o e hl λq=>(hS a q).elim (λz=>by rw[z] at e;cases e) hn,T.newf,T.alive,T.mono⟩
theorem fR.hide(T:fR X S φ w s φ' w' s')(hS:∀a,S a→s.heap.get? a=none):fR X S' φ w s φ' w' s':=T.sub λa q=>.inl (hS a q)
theorem fR.weak(T:fR X S φ w s φ' w' s')(hS:∀a,S a→S' a):fR X S' φ w s φ' w' s':=T.sub λa q=>.inr (hS a q)
theorem fR.up(T:fR X no φ w s φ' w' s'):fR X S φ w s φ' w' s':=T.weak λξ q=>q.elim
theorem mU.keeps{h h':Heap}(k:kJ X φ φ' h h'){o:Option Value}{d:V}(x:mU X φ h o d):mU X φ' h' o d:=x.casesOn (λo=>.unset o) λv d r=>.mk v d (r.keeps k)
theorem mU.get{h:Heap}{o:Option Value}{d:V}(x:mU X φ h o d)(hd:d≠.unset):∃v,o=some v∧Rep X φ h v d:=by
 cases x with
 |unset=>exact(hd rfl).elim
 |mk v d r=>exact⟨v,rfl,r⟩
theorem fW.keeps{env:Env}{sc:Scope}{ns:List Str}{ρ:List V}{h h':Heap}(R:fW X S φ env sc ns ρ h)(k:kJ X φ φ' h h')(ko:∀a o,S a→h.get? a=some o→h'.get? a=some o)(kc:∀a v,h.IsCell a v→h'.IsCell a v)(km:∀a,S a→a∈φ'→a∈φ):fW X S φ' env sc ns ρ h' where
 kind:=R.kind
 glob:=R.glob
 blt:=R.blt
 loc:=R.loc
 cel:=R.cel
 fre:=R.fre
 glo:=R.glo
 len:=R.len
 tab:=R.tab.casesOn λm hn hv=>.mk m (by obtain⟨o,es,ep,e,r⟩:=hn;exact⟨o,es,ep,ko _ _ R.own e,r⟩) λx i d h0 h1 h2 h3=>(hv x i d h0 h1 h2 h3).keeps k
 cell x hx:=(R.cell x hx).casesOn λc v h1 h2 h3 h4=>.mk c v h1 (kc _ _ h2) h3 λi d a b=>(h4 i d a b).keeps k
 apart:=R.apart
 own:=R.own
 ownOk a ha:=(R.ownOk a ha).casesOn λo h1 h2 h3 h4=>.mk o (λq=>h1 (km a ha q)) h2 (ko _ _ ha h3) h4
theorem fW.step{env:Env}{sc:Scope}{ns:List Str}{ρ:List V}(R:fW X S φ env sc ns ρ s.heap)(C:Cst X φ w s)(T:fR X no φ w s φ' w' s'):fW X S φ' env sc ns ρ s'.heap:=
 R.keeps (T.kept C) (λa o q e=>(R.ownOk a q).casesOn λξ h1 ξ ξ ξ=>T.keep a o e (gQ h1) id)
  (λa v x=>by obtain⟨o,e,hd⟩:=x;exact⟨o,T.keep _ _ e (nT C e (Ef hd)) id,hd⟩) λa q h=>(R.ownOk a q).casesOn λξ ξ ξ h3 ξ=>T.mem_back h (iB h3)
theorem fR.keptO{env:Env}{sc:Scope}{ns:List Str}{ρ:List V}(R:fW X S φ env sc ns ρ s.heap)(C:Cst X φ w s)(T:fR X S φ w s φ' w' s'):kJ X φ φ' s.heap s'.heap:=
 T.keptM C λa o q e=>(R.ownOk a q).casesOn λo' ξ ξ e' m=>by rw[e] at e';cases e';exact m
theorem Rep.own{env:Env}{sc:Scope}{ns:List Str}{ρ:List V}(R:fW X S φ env sc ns ρ s.heap)(C:Cst X φ w s)(T:fR X S φ w s φ' w' s'){v:Value}{d:V}(r:Rep X φ s.heap v d):Rep X φ' s'.heap v d:=r.keeps (T.keptO R C)
theorem fU.own{env:Env}{sc:Scope}{ns:List Str}{ρ:List V}(R:fW X S φ env sc ns ρ s.heap)(C:Cst X φ w s)(T:fR X S φ w s φ' w' s'){v:List Value}{d:List V}(r:fU X φ s.heap v d):fU X φ' s'.heap v d:=r.keeps (T.keptO R C)
end
inductive hH(X:Pk)(φ:List Addr)(w:W)(s:Shared)(d:V)(w':W)(v:Value)(s':Shared):Prop | mk (φ':List Addr):fR X no φ w s φ' w' s'→Rep X φ' s'.heap v d→hH X φ w s d w' v s'
inductive Tx(X:Pk)(φ:List Addr)(w:W)(s:Shared)(d:List V)(w':W)(v:List Value)(s':Shared):Prop | mk (φ':List Addr):fR X no φ w s φ' w' s'→fU X φ' s'.heap v d→Tx X φ w s d w' v s'
inductive Ja(X:Pk)(φ:List Addr)(w:W)(s:Shared)(b:Bool)(w':W)(v:Bool)(s':Shared):Prop | mk (φ':List Addr):fR X no φ w s φ' w' s'→v=b→Ja X φ w s b w' v s'
inductive Pq(X:Pk)(φ:List Addr)(w:W)(s:Shared)(w':W)(s':Shared):Prop | mk (φ':List Addr):fR X no φ w s φ' w' s'→Pq X φ w s w' s'
noncomputable abbrev nor:Value→Shared→Prop:=λξ ξ=>False
structure Fr(X:Pk)(r:Nat)(S:Addr→Prop)(φ:List Addr)(env:Env)(sc:Scope)(ns:List Str)(ρ:List V)(w:W)(s:Shared)(A:Around):Prop where
 R:fW X S φ env sc ns ρ s.heap
 C:Cst X φ w s
 M:lM r A
theorem Fr.step{X r S φ env sc ns ρ w s A}{φ':List Addr}{w':W}{s':Shared}(F:Fr X r S φ env sc ns ρ w s A)(T:fR X no φ w s φ' w' s'):Fr X r S φ' env sc ns ρ w' s' A:=⟨F.R.step F.C T,T.cst,F.M⟩
noncomputable abbrev WP(X:Pk){α:Type}(A:Around)(m:Sem α)(Q:α→Shared→Prop)(s:Shared):Prop:=wpAny (model P X.w) A m Q nor s
theorem WP.mono{X:Pk}{α:Type}{A:Around}{m:Sem α}{Q Q':α→Shared→Prop}{s:Shared}(h:WP X A m Q s)(k:∀v s',Q v s'→Q' v s'):WP X A m Q' s:=wpAny_mono h k λξ ξ x=>x
noncomputable def Ev(X:Pk)(r:Nat)(e:Ex)(ρ:List V)(w:W)(d:V)(w':W):Prop:=
 ∀py sc ns,Tr sc ns py e→∀S env φ s A,Fr X r S φ env sc ns ρ w s A→WP X A (eval py env) (hH X φ w s d w') s
noncomputable def Evs(X:Pk)(r:Nat)(es:Exs)(ρ:List V)(w:W)(ds:List V)(w':W):Prop:=
 ∀pys sc ns,Trs sc ns pys es→∀S env φ s A,Fr X r S φ env sc ns ρ w s A→∀pos,WP X A (spliced (backTo pos (starEach pys env))) (Tx X φ w s ds w') s
noncomputable def Tst(X:Pk)(r:Nat)(e:Ce)(ρ:List V)(w:W)(b:Bool)(w':W):Prop:=
 ∀py sc ns,TrC sc ns py e→∀S env φ s A,Fr X r S φ env sc ns ρ w s A→WP X A (isTrue py env (eval py env)) (Ja X φ w s b w') s
noncomputable def qK(X:Pk)(r:Nat)(op:BoolOp)(es:Ces)(ρ:List V)(w:W)(b:Bool)(w':W):Prop:=
 ∀pys sc ns,LV sc ns pys es→∀S env φ s A,Fr X r S φ env sc ns ρ w s A→WP X A (allTrue op pys env) (Ja X φ w s b w') s
section
variable{X:Pk}{r:Nat}{ρ:List V}{w w1 w2 w3:W}{S:Addr→Prop}{φ:List Addr}{env:Env}{sc:Scope}{ns:List Str}{s:Shared}{A:Around}
theorem Ev.use{e:Ex}{d:V}(h:Ev X r e ρ w d w1){py:Expr}(ht:Tr sc ns py e)(F:Fr X r S φ env sc ns ρ w s A){Q:Value→Shared→Prop}(k:∀φ1 s1 v,fR X no φ w s φ1 w1 s1→Rep X φ1 s1.heap v d→Fr X r S φ1 env sc ns ρ w1 s1 A→Q v s1):WP X A (eval py env) Q s:=
 (h _ _ _ ht _ _ _ _ _ F).mono λv s1 x=>x.casesOn λφ1 T r=>k φ1 s1 v T r (F.step T)
theorem Evs.use{e:Exs}{d:List V}(h:Evs X r e ρ w d w1){py:List Expr}(ht:Trs sc ns py e)(F:Fr X r S φ env sc ns ρ w s A){pos:Pos}{Q:List Value→Shared→Prop}(k:∀φ1 s1 v,fR X no φ w s φ1 w1 s1→fU X φ1 s1.heap v d→Fr X r S φ1 env sc ns ρ w1 s1 A→Q v s1):WP X A (spliced (backTo pos (starEach py env))) Q s:=
 (h _ _ _ ht _ _ _ _ _ F pos).mono λv s1 x=>x.casesOn λφ1 T r=>k φ1 s1 v T r (F.step T)
theorem Tst.use{e:Ce}{b:Bool}(h:Tst X r e ρ w b w1){py:Expr}(ht:TrC sc ns py e)(F:Fr X r S φ env sc ns ρ w s A){Q:Bool→Shared→Prop}(k:∀φ1 s1,fR X no φ w s φ1 w1 s1→Fr X r S φ1 env sc ns ρ w1 s1 A→Q b s1):WP X A (isTrue py env (eval py env)) Q s:=
 (h _ _ _ ht _ _ _ _ _ F).mono λv s1 x=>x.casesOn λφ1 T e=>by rw[e];exact k φ1 s1 T (F.step T)
theorem qK.use{o:BoolOp}{e:Ces}{b:Bool}(h:qK X r o e ρ w b w1){py:List Expr}(ht:LV sc ns py e)(F:Fr X r S φ env sc ns ρ w s A){Q:Bool→Shared→Prop}(k:∀φ1 s1,fR X no φ w s φ1 w1 s1→Fr X r S φ1 env sc ns ρ w1 s1 A→Q b s1):WP X A (allTrue o py env) Q s:=
 (h _ _ _ ht _ _ _ _ _ F).mono λv s1 x=>x.casesOn λφ1 T e=>by rw[e];exact k φ1 s1 T (F.step T)
theorem Ev.non:Ev X r .non ρ w .none w:=λpy sc ns h S env φ s A F=>(nI (YM h)).casesOn λc k p z =>
 Const.none.elim (motive:=λc=>WP X A (eval (.Constant c k p) env) (hH X φ w s .none w) s) c (of_decide_eq_true z) (wpAny_Constant_none ⟨φ,.refl F.C,.none⟩)
theorem Ev.boo{b:Bool}:Ev X r (.boo b) ρ w (.bool b) w:=λpy sc ns h S env φ s A F=>(nI (YU h)).casesOn λc k p z=>(Fq z).casesOn λx z=>by
 rw[eq_of_beq z];exact wpAny_Constant_bool ⟨φ,.refl F.C,.bool _⟩
theorem Ev.int{i:Int}:Ev X r (.int i) ρ w (.int i) w:=λpy sc ns h S env φ s A F=>(nI (YR h)).casesOn λc k p z=>(HV z).casesOn λx z=>by
 rw[of_decide_eq_true z];exact wpAny_Constant_int ⟨φ,(fR.refl F.C).toks _,.int _ _⟩
theorem yL{x:Str}{l:List Str}{i:Nat}(h:idxOf x l=some i):l.getD i Str.empty=x:=by rw[aL,pQ h];rfl
theorem Ev.str{i:Nat}:Ev X r (.str i) ρ w (.str i) w:=λpy sc ns h S env φ s A F=>(nI (YL h)).casesOn λc k p z=>(HU z).casesOn λx z=>by
 have e:lF i=x:=yL (eq_of_beq z)
 have q:i≠6:=λq=>by subst q;exact nomatch (pQ (eq_of_beq z)).symm
 exact wpAny_Constant_str ⟨φ,(fR.refl F.C).toks _,by rw[←e];exact .str _ _ q⟩
structure Zb(sc:Scope)(ns:List Str)(x:Str)(i:Nat):Prop where
 idx:gK x ns=some i
 kind:sc.names.lookup x=some .local∨sc.names.lookup x=some .cell∨sc.names.lookup x=some .free
 dbg:(x==("__debug__" : Str))=false
 cd:(x==("__classdict__" : Str))=false
 dot:(x==(".0" : Str))=false
theorem EA{x:Str}{i:Nat}(h:zJ sc ns x=some i):Zb sc ns x i:=by
 unfold zJ at h
 by_cases q:(yQ sc x&&!(x==("__debug__" : Str))&&!(x==("__classdict__" : Str))&&!(x==(".0" : Str)))=true
 ·rw[if_pos q] at h
  simp only[dE,dU] at q
  refine⟨h,?_,q.1.1.2,q.1.2,q.2⟩
  have:=q.1.1.1
  unfold yQ at this
  cases e:sc.names.lookup x with
  |none=>rw[e] at this;cases this
  |some k=>rw[e] at this;cases k<;>first | exact .inl rfl | exact .inr (.inl rfl) | exact .inr (.inr rfl) | cases this
 ·rw[if_neg q] at h;cases h
theorem Ev.var{i:Nat}{d:V}(hd:ρ[i]?=some d)(hu:d≠.unset):Ev X r (.var i) ρ w d w:=λpy sc ns h S env φ s A F=>(iL (YJ h)).casesOn λx p z=>by
 have v:=EA (eq_of_beq z)
 have R:=F.R
 have fin:∀{u},Rep X φ s.heap u d→hH X φ w s d w u s:=λq=>⟨φ,.refl F.C,q⟩
 have cell:∀q,∃c u,env.cells.lookup x=some c∧s.heap.IsCell c (some u)∧Rep X φ s.heap u d:=λq=>(R.cell x q).casesOn λc v' h1 h2 h3 h4=>by
  obtain⟨u,rfl,q2⟩:=(h4 i d v.idx hd).get hu
  exact⟨c,u,h1,h2,q2⟩
 rcases v.kind with q | q | q
 ·refine R.tab.casesOn λm hn hm=>?_
  obtain⟨u,q1,q2⟩:=(hm x i d v.dot q v.idx hd).get hu
  exact wpAny_Name (wpAny_loadName_local R.kind (R.loc x q) hn q1 (fin q2)) v.dbg
 ·obtain⟨c,u,h1,h2,q2⟩:=cell (.inl q)
  exact wpAny_Name (wpAny_loadName_cell R.kind (R.cel x q) h1 h2 (fin q2)) v.dbg
 ·obtain⟨c,u,h1,h2,q2⟩:=cell (.inr q)
  rcases R.fre x q with z | z
  ·exact wpAny_Name (wpAny_loadName_cell R.kind z h1 h2 (fin q2)) v.dbg
  ·exact wpAny_Name (wpAny_loadName_free R.kind z h1 h2 (fin q2) v.cd) v.dbg
theorem Evs.nil:Evs X r .nil ρ w [] w:=λpys sc ns h S env φ s A F pos=>by
 rw[jR (VT h)]
 exact wpAny_items_nil ⟨φ,.refl F.C,.nil⟩
theorem Evs.cons{e:Ex}{es:Exs}{d:V}{ds:List V}(h1:Ev X r e ρ w d w1)(h2:Evs X r es ρ w1 ds w2):Evs X r (.cons e es) ρ w (d::ds) w2:=λpys sc ns h S env φ s A F pos =>
 (gX (Nz h)).casesOn λp ps a b=>wpAny_items_cons (h1.use a F λφ1 s1 v T1 r1 F1=>h2.use b F1 λφ2 s2 vs T2 r2 F2=>⟨φ2,T1.trans T2,.cons (r1.step F1.C T2) r2⟩) ((Tr.plain a).star _ _)
end
noncomputable def W.add(w:W)(c:hW):W:=⟨λn=>if n=w.next then some c else w.get n,w.next+1⟩
noncomputable def W.set(w:W)(n:Nat)(c:hW):W:=⟨λm=>if m=n then some c else w.get m,w.next⟩
section
variable{X:Pk}{S:Addr→Prop}{φ φ':List Addr}{w:W}{s s':Shared}
theorem sD(C:Cst X φ w s)(a:Addr):(φ++[a])[w.next]?=some a:=by rw[←C.len,bP (aO _)];simp
theorem KQ{l:List Addr}(h:l.Nodup){i j:Nat}{a:Addr}(hi:l[i]?=some a)(hj:l[j]?=some a):i=j:=by
 obtain⟨l1,e1⟩:=aB.mp hi
 obtain⟨l2,e2⟩:=aB.mp hj
 have hp:=List.pairwise_iff_getElem.mp h
 rcases Nat.lt_trichotomy i j with q | q | q
 ·exact absurd (e1.trans e2.symm) (hp i j l1 l2 q)
 ·exact q
 ·exact absurd (e2.trans e1.symm) (hp j i l2 l1 q)
theorem Gc{l:List Addr}{a:Addr}(h:l.Nodup)(n:a∉l):(l++[a]).Nodup:=by
 rw[dI]
 exact⟨h,by simp,λx hx b hb=>by rw[aG] at hb;subst hb;rintro rfl;exact n hx⟩
theorem AG{l:List Addr}{a b:Addr}(h:b∈l++[a]):b∈l∨b=a:=(bQ.mp h).imp id λq=>aG.mp q
theorem fR.chg(C:Cst X φ w s){a:Addr}{h':Heap}{g d t o}{w':W}(hm:∀b,b≠a→∀o,s.heap.get? b=some o→h'.get? b=some o)(ha:(s.heap.get? a).isSome=true→(h'.get? a).isSome=true)(hb:X.h0.get? a=none)(hg:g=s.gens)(ho:o=s.os)(hS:¬Gf φ w a→(s.heap.get? a).isSome=true→S a)(hk:kJ X φ φ s.heap h')(hn:w'.next=w.next)(hc:∀n c,w'.get n=some c→(w.get n=some c∧φ[n]?≠some a)∨((w.get n).isSome=true∧φ[n]?=some a∧iK X φ h' a c)) :
  fR X S φ w s φ w' ⟨h',g,d,t,o⟩:=by
 have al:∀b,(s.heap.get? b).isSome=true→(h'.get? b).isSome=true:=λb e=>by
  by_cases q:b=a
  ·subst q;exact ha e
  ·exact lX (hm b q) e
 refine⟨cA _,C.len,⟨C.len.trans hn.symm,C.nd,λn c h=>?_,λb q=>al b (C.alive b q),C.fresh,λb o e=>hm b ?_ o (C.base b o e),hg.trans C.gens,ho.trans C.os,λb q=>al b (C.ban b q)⟩,
  λb o e hl ns=>hm b ?_ o e,λn b e h=>AB e h,al,⟨bH hn.symm,λn ξ e=>?_⟩⟩
 ·rcases hc n c h with⟨q1,q2⟩ | ⟨_,q2,q3⟩
  ·obtain⟨b,hb',x⟩:=C.cell n c q1
   exact⟨b,hb',x.keeps hk (hm b λe=>q2 (by rw[hb',e]))⟩
  ·exact⟨a,q2,q3⟩
 ·rintro rfl;rw[hb] at e;cases e
 ·rintro rfl;exact ns (hS hl (iB e))
 ·obtain⟨c,hc'⟩:=cW.mp e
  rcases hc n c hc' with⟨q,_⟩ | ⟨q,_⟩
  ·rw[q];rfl
  ·exact q
theorem fR.grow(C:Cst X φ w s)(k:∀b o,s.heap.get? b=some o→s'.heap.get? b=some o)(hg:s'.gens=s.gens)(ho:s'.os=s.os):fR X no φ w s φ w s':=
 have K:kJ X φ φ s.heap s'.heap:=.all (cA _) k
 ⟨cA _,C.len,⟨C.len,C.nd,λn c h=>(C.cell n c h).elim λa x=>⟨a,x.1,x.2.keeps K (k a)⟩,λa ha=>lX (k a) (C.alive a ha),C.fresh,λb o' e=>k _ _ (C.base b o' e),hg.trans C.gens,ho.trans C.os,λa ha=>lX (k a) (C.ban a ha)⟩,
  λa o' e ξ ξ=>k _ _ e,λn a e h=>AB e h,λa h=>lX (k a) h,.refl w⟩
theorem fR.push(C:Cst X φ w s)(o:Obj):fR X no φ w s φ w {s with heap:=s.heap.push o}:=.grow (s':={s with heap:=s.heap.push o}) C (λξ ξ e=>aR _ e) rfl rfl
theorem fR.adopt0{w':W}(hT:fR X S φ w s φ' w' s'){a:Addr}(ha:s.heap.get? a=none)(hna:a∉φ')(hb:X.h0.get? a=none){c:hW}(hc:iK X (φ'++[a]) s'.heap a c):fR X S φ w s (φ'++[a]) (w'.add c) s':=by
 have C:=hT.cst
 refine⟨hT.pre.trans (List.prefix_append _ _),hT.len,⟨?_,Gc C.nd hna,?_,?_,?_,C.base,C.gens,C.os,C.ban⟩,hT.keep,?_,hT.alive,⟨dN hT.mono.next,λn hn e=>?_⟩⟩
 ·rw[aD,C.len];rfl
 ·intro n c' h
  by_cases hn:n=w'.next
  ·subst hn
   simp only[W.add,if_true] at h
   cases h
   exact⟨a,sD C a,hc⟩
  ·simp only[W.add,hn,if_false] at h
   obtain⟨b,hb,x⟩:=C.cell n c' h
   exact⟨b,sC (List.prefix_append _ _) hb,x.keeps (.same (List.prefix_append _ _)) λξ e=>e⟩
 ·intro b hb
  rcases AG hb with q | rfl
  ·exact C.alive b q
  ·exact hc.some
 ·intro b hb'
  rcases AG hb' with q | rfl
  ·exact C.fresh b q
  ·exact hb
 ·intro n b e hn
  by_cases q:n<φ'.length
  ·rw[aJ q] at e;exact hT.newf n b e hn
  ·rw[bP (dM.mp q)] at e
   have:b=a:=by
    cases k:n-φ'.length with
    |zero=>rw[k] at e;simpa using e.symm
    |succ j=>rw[k] at e;simp at e
   subst this;exact ha
 ·have:n≠w'.next:=bG (aM hn hT.mono.next)
  exact hT.mono.get n hn (by simpa [W.add,this] using e)
theorem fR.growNew(C:Cst X φ w s)(k:∀b o,s.heap.get? b=some o→s'.heap.get? b=some o)(hg:s'.gens=s.gens)(ho:s'.os=s.os){a:Addr}(ha:s.heap.get? a=none){c:hW}(hc:iK X (φ++[a]) s'.heap a c):fR X no φ w s (φ++[a]) (w.add c) s':=
 have T:=fR.grow (s':=s') C k hg ho
 T.adopt0 ha (C.notMem ha) (C.notBase ha) hc
theorem fR.new(C:Cst X φ w s)(o:Obj)(c:hW)(hc:iK X (φ++[s.heap.objs.size]) (s.heap.push o) s.heap.objs.size c) :
  fR X no φ w s (φ++[s.heap.objs.size]) (w.add c) {s with heap:=s.heap.push o}:=
 .growNew (s':={s with heap:=s.heap.push o}) C (λξ ξ e=>aR _ e) rfl rfl (iA _) hc
theorem fR.updG(C:Cst X φ w s){n:Nat}{a:Addr}{c0 c:hW}{h':Heap}{tk:Nat}(hn:w.get n=some c0)(ha:φ[n]?=some a)(hk:∀b o,b≠a→s.heap.get? b=some o→h'.get? b=some o)(hc:kJ X φ φ s.heap h'→iK X φ h' a c):fR X no φ w s φ (w.set n c) {s with heap:=h',toks:=tk}:=by
 have hlive:Gf φ w a:=⟨n,by rw[hn];rfl,ha⟩
 have K:kJ X φ φ s.heap h':=⟨cA _,λb k its e ξ=>hk b _ (by rintro rfl;exact nT C e tQ hlive) e,λb C' dx e=>hk b _ (by rintro rfl;exact nT C e qZ hlive) e⟩
 refine fR.chg C (a:=a) (λb q o e=>hk b o q e) (λξ=>(hc K).some) (C.fresh _ (aF ha)) rfl rfl (λq=>(q hlive).elim) K rfl λm c' h=>?_
 by_cases q:m=n
 ·subst q
  simp only[W.set,if_true] at h
  cases h
  exact .inr ⟨by rw[hn];rfl,ha,hc K⟩
 ·simp only[W.set,q,if_false] at h
  exact .inl ⟨h,λe=>q (KQ C.nd e ha)⟩
theorem fR.upd(C:Cst X φ w s){n:Nat}{a:Addr}{c0 c:hW}{h':Heap}(hn:w.get n=some c0)(ha:φ[n]?=some a)(hs:Heap.SameBut a s.heap h')(hc:kJ X φ φ s.heap h'→iK X φ h' a c) :
  fR X no φ w s φ (w.set n c) {s with heap:=h'}:=.updG (tk:=s.toks) C hn ha (λb o q e=>by rw[hs.2 b q];exact e) hc
end
theorem rD:lim≤sizeLine:=by decide
section
variable{X:Pk}{φ:List Addr}{h:Heap}
theorem fU.append{es us}(b:fU X φ h us es):∀(ds:List V) {vs:List Value},fU X φ h vs ds→fU X φ h (vs++us) (ds++es):=
 List.rec (λr=>by rw[r.nil_inv];exact b) λd ds ih vs r=>r.cons_inv.casesOn λv us a r=>.cons a (ih r)
theorem fU.app{vs us:List Value}{ds es:List V}(a:fU X φ h vs ds)(b:fU X φ h us es):fU X φ h (vs++us) (ds++es):=b.append _ a
theorem fU.get0:∀(ds:List V) (vs:List Value),fU X φ h vs ds→∀(i:Nat),(∃v d,vs[i]?=some v∧ds[i]?=some d∧Rep X φ h v d)∨(vs[i]?=none∧ds[i]?=none):=
 List.rec (λvs r i=>by rw[r.nil_inv];exact .inr ⟨rfl,rfl⟩) λd ds ih vs r=>r.cons_inv.casesOn λv us a r i=>Nat.casesOn i (.inl ⟨_,_,rfl,rfl,a⟩) λi=>ih us r i
theorem fU.get{vs:List Value}{ds:List V}(r:fU X φ h vs ds){i:Nat}{d:V}(e:ds[i]?=some d):∃v,vs[i]?=some v∧Rep X φ h v d:=by
 rcases fU.get0 _ _ r i with⟨v,d',h1,h2,h3⟩ | ⟨_,h2⟩
 ·rw[e] at h2;cases h2;exact⟨v,h1,h3⟩
 ·rw[e] at h2;cases h2
theorem fU.set{v:Value}{d:V}(e:Rep X φ h v d):∀(ds:List V) (vs:List Value),fU X φ h vs ds→∀(i:Nat),fU X φ h (vs.set i v) (ds.set i d):=
 List.rec (λvs r i=>by rw[r.nil_inv];exact .nil) λd ds ih vs r=>r.cons_inv.casesOn λv us a r i=>Nat.casesOn i (.cons e r) λi=>.cons a (ih us r i)
theorem fU.take:∀(ds:List V) (vs:List Value),fU X φ h vs ds→∀(i:Nat),fU X φ h (vs.take i) (ds.take i):=
 List.rec (λvs r i=>by rw[r.nil_inv,List.take_nil,List.take_nil];exact .nil) λd ds ih vs r=>r.cons_inv.casesOn λv us a r i=>Nat.casesOn i .nil λi=>.cons a (ih us r i)
theorem fU.drop:∀(ds:List V) (vs:List Value),fU X φ h vs ds→∀(i:Nat),fU X φ h (vs.drop i) (ds.drop i):=
 List.rec (λvs r i=>by rw[r.nil_inv,List.drop_nil,List.drop_nil];exact .nil) λd ds ih vs r=>r.cons_inv.casesOn λv us a r i=>Nat.casesOn i (.cons a r) λi=>ih us r i
end
section
variable{X:Pk}{φ:List Addr}{w:W}{s:Shared}
theorem gL(C:Cst X φ w s){n:Nat}{a:Addr}{ds:List V}(hn:w.get n=some (.list ds))(e:φ[n]?=some a):xF X φ s.heap a ds:=(C.cell _ _ hn).elim λa' x=>by
 have:=x.1;rw[e] at this;cases this;exact x.2
theorem pX(C:Cst X φ w s){n:Nat}{a:Addr}{ds:List (Int×V)}(hn:w.get n=some (.dict ds))(e:φ[n]?=some a):xH X φ s.heap a ds:=(C.cell _ _ hn).elim λa' x=>by
 have:=x.1;rw[e] at this;cases this;exact x.2
theorem SR(C:Cst X φ w s){n:Nat}{a:Addr}{ds:List (Nat×V)}(hn:w.get n=some (.ns ds))(e:φ[n]?=some a):Pt X φ s.heap a ds:=(C.cell _ _ hn).elim λa' x=>by
 have:=x.1;rw[e] at this;cases this;exact x.2
theorem fU.kept{h':Heap}{φ':List Addr}{vs:List Value}{ds:List V}{h:Heap}(r:fU X φ h vs ds)(p:φ <+: φ')(k:∀b o,h.get? b=some o→h'.get? b=some o):fU X φ' h' vs ds:=r.keeps (.all p k)
theorem hH.listG(C:Cst X φ w s){vs:List Value}{ds:List V}{a:Addr}{n:Nat}{s':Shared}(hk:∀b o,s.heap.get? b=some o→s'.heap.get? b=some o)(hs:s'.gens=s.gens)(ho:s'.os=s.os)(hg:s'.heap.get? a=some (listOf vs.toArray n))(ha:s.heap.get? a=none)(r:fU X φ s.heap vs ds)(hl:ds.length≤lim):hH X φ w s (.ref w.next) (w.add (.list ds)) (.ref a) s':=
 ⟨_,fR.growNew (s':=s') C hk hs ho ha (.mk n vs hg (r.kept (List.prefix_append _ _) hk) hl),.ref (sD C _)⟩
theorem hH.newList(C:Cst X φ w s){vs:List Value}{ds:List V}(r:fU X φ s.heap vs ds)(hl:ds.length≤lim){o:Obj}(ho:o=listOf vs.toArray 0) :
  hH X φ w s (.ref w.next) (w.add (.list ds)) (.ref s.heap.objs.size) {s with heap:=s.heap.push o}:=by
 subst ho
 exact hH.listG (n:=0) (s':={s with heap:=s.heap.push _}) C (λξ ξ e=>aR _ e) rfl rfl (aW _ rfl) (iA _) r hl
theorem hH.tupG(C:Cst X φ w s){vs:List Value}{ds:List V}{a:Addr}{n:Nat}{s':Shared}(hk:∀b o,s.heap.get? b=some o→s'.heap.get? b=some o)(hs:s'.gens=s.gens)(ho:s'.os=s.os)(hg:s'.heap.get? a=some (lV vs.toArray n))(ha:s.heap.get? a=none)(r:fU X φ s.heap vs ds)(hl:ds.length≤lim):hH X φ w s (.tup ds) w (.ref a) s':=
 ⟨φ,.grow C hk hs ho,.tup hg (r.kept (cA _) hk) (C.notBan ha) hl⟩
theorem hH.newTup(C:Cst X φ w s){vs:List Value}{ds:List V}(r:fU X φ s.heap vs ds)(hl:ds.length≤lim){o:Obj}(ho:o=lV vs.toArray 0) :
  hH X φ w s (.tup ds) w (.ref s.heap.objs.size) {s with heap:=s.heap.push o}:=by
 subst ho
 exact hH.tupG (n:=0) (s':={s with heap:=s.heap.push _}) C (λξ ξ e=>aR _ e) rfl rfl (aW _ rfl) (iA _) r hl
theorem hH.after{φ1:List Addr}{w1 w2:W}{s1 s2:Shared}{d:V}{v:Value}(T:fR X no φ w s φ1 w1 s1)(p:hH X φ1 w1 s1 d w2 v s2):hH X φ w s d w2 v s2:=p.casesOn λφ2 T2 r=>⟨φ2,T.trans T2,r⟩
end
section
variable{X:Pk}{r:Nat}{ρ:List V}{w w1 w2 w3:W}
theorem Ev.tup{es:Exs}{ds:List V}(h:Evs X r es ρ w ds w1)(hl:ds.length≤lim):Ev X r (.tup es) ρ w (.tup ds) w1:=λpy sc ns ht S env φ s A F=>(kC (YK ht)).casesOn λes k p z =>
 wpAny_Tuple (h.use z F λφ1 s1 vs T1 r1 F1=>⟨by rw[r1.len];exact aE hl rD,(hH.newTup F1.C r1 hl rfl).after T1⟩)
theorem Ev.lst{es:Exs}{ds:List V}(h:Evs X r es ρ w ds w1)(hl:ds.length≤lim):Ev X r (.lst es) ρ w (.ref w1.next) (w1.add (.list ds)):=λpy sc ns ht S env φ s A F=>(HN (YO ht)).casesOn λes p z =>
 wpAny_List (h.use z F λφ1 s1 vs T1 r1 F1=>⟨by rw[r1.len];exact aE hl rD,(hH.newList F1.C r1 hl rfl).after T1⟩)
noncomputable def Op2(X:Pk)(r:Nat)(f:Value→Value→Sem Value)(a b:V)(w:W)(d:V)(w':W):Prop:=
 ∀φ s A u v,Rep X φ s.heap u a→Rep X φ s.heap v b→Cst X φ w s→lM r A→WP X A (f u v) (hH X φ w s d w') s
noncomputable abbrev Bin(X:Pk)(r:Nat)(op:Operator)(a b:V)(w:W)(d:V)(w':W):Prop:=Op2 X r (binaryOp op) a b w d w'
noncomputable abbrev Cmp(X:Pk)(r:Nat)(op:CmpOp)(a b:V)(w:W)(c:Bool)(w':W):Prop:=Op2 X r (compareOp op) a b w (.bool c) w'
theorem Op2.use{f:Value→Value→Sem Value}{a b d:V}(h:Op2 X r f a b w d w1){S φ env sc ns s A}(F:Fr X r S φ env sc ns ρ w s A){u v:Value}(ra:Rep X φ s.heap u a)(rb:Rep X φ s.heap v b){Q:Value→Shared→Prop}(k:∀φ1 s1 v,fR X no φ w s φ1 w1 s1→Rep X φ1 s1.heap v d→Fr X r S φ1 env sc ns ρ w1 s1 A→Q v s1):WP X A (f u v) Q s:=
 (h _ _ _ _ _ ra rb F.C F.M).mono λv s1 x=>x.casesOn λφ1 T r=>k φ1 s1 v T r (F.step T)
theorem Ev.bin{op:Operator}{a b:Ex}{d e f:V}(h1:Ev X r a ρ w d w1)(h2:Ev X r b ρ w1 e w2)(h:Bin X r op d e w2 f w3):Ev X r (.bin op a b) ρ w f w3:=λpy sc ns ht S env φ s A F=>(HS (YV ht)).casesOn λl o r p z=>by
 rw[of_decide_eq_true (and2 z).1]
 exact wpAny_BinOp (h1.use (and2 (and2 z).2).1 F λφ1 s1 u T1 r1 F1=>h2.use (and2 (and2 z).2).2 F1 λφ2 s2 v T2 r2 F2=>h.use F2 (r1.step F1.C T2) r2 λφ3 s3 x T3 r3 F3=>⟨φ3,(T1.trans T2).trans T3,r3⟩)
inductive Zv(op:List CmpOp)(P:Expr→Prop)(Q:List Expr→Prop):Expr→Prop | mk (l:Expr) (c:List Expr) (p:Pos):P l→Q c→Zv op P Q (.Compare l op c p)
theorem AR{sc:Scope}{ns:List Str}{py:Expr}{a:KE}{l:KL}{ops:List CmpOp}(h:qE a ops l sc ns py=true):Zv ops (λe=>a sc ns e=true) (λe=>l sc ns e=true) py:=(HP h).casesOn λx os cs p z=>by
 rw[of_decide_eq_true (and2 z).1];exact⟨_,_,_,(and2 (and2 z).2).1,(and2 (and2 z).2).2⟩
theorem Ev.cmp{op:CmpOp}{a b:Ex}{d e:V}{c:Bool}(h1:Ev X r a ρ w d w1)(h2:Ev X r b ρ w1 e w2)(h:Cmp X r op d e w2 c w3):Ev X r (.cmp a op b) ρ w (.bool c) w3:=λpy sc ns ht S env φ s A F=>(AR (YT ht)).casesOn λl cs p x y0=>(pL y0).casesOn λb y =>
 wpAny_Compare1 (h1.use x F λφ1 s1 u T1 r1 F1=>h2.use y F1 λφ2 s2 v T2 r2 F2=>h.use F2 (r1.step F1.C T2) r2 λφ3 s3 x T3 r3 F3=>⟨φ3,(T1.trans T2).trans T3,r3⟩) ((Tr.plain y).mark _)
theorem Tst.cmp{op:CmpOp}{a b:Ex}{d e:V}{c:Bool}(h1:Ev X r a ρ w d w1)(h2:Ev X r b ρ w1 e w2)(h:Cmp X r op d e w2 c w3):Tst X r (.cmp a op b) ρ w c w3:=λpy sc ns ht S env φ s A F=>(AR (aAf ht)).casesOn λl cs p x y0=>(pL y0).casesOn λb y =>
 wpAny_isTrue_Compare1 (h1.use x F λφ1 s1 u T1 r1 F1=>h2.use y F1 λφ2 s2 v T2 r2 F2=>h.use F2 (r1.step F1.C T2) r2 λφ3 s3 x T3 r3 F3=>by rw[r3.bool_inv];exact wpAny_truthy_bool ⟨φ3,(T1.trans T2).trans T3,rfl⟩) ((Tr.plain y).mark _)
theorem GY{py:Expr}(h:Cv py=true)(env:Env):isTrue py env (eval py env)=(do let v ←eval py env;standAt py.pos;holding [v] (truthy v)):=by
 unfold Cv at h
 rcases cR.mp h with h | h
 ·exact Expr.Name.elim (motive_1:=λpy=>isTrue py env (eval py env)=(do let v ←eval py env;standAt py.pos;holding [v] (truthy v))) py (of_decide_eq_true h) λξ ξ=>rfl
 ·rcases cR.mp h with h | h
  ·exact Expr.Attribute.elim (motive_1:=λpy=>isTrue py env (eval py env)=(do let v ←eval py env;standAt py.pos;holding [v] (truthy v))) py (of_decide_eq_true h) λξ ξ ξ=>rfl
  ·exact Expr.Call.elim (motive_1:=λpy=>isTrue py env (eval py env)=(do let v ←eval py env;standAt py.pos;holding [v] (truthy v))) py (of_decide_eq_true h) λξ ξ ξ ξ=>rfl
theorem Tst.val{e:Ex}{b:Bool}(h:Ev X r e ρ w (.bool b) w1):Tst X r (.val e) ρ w b w1:=λpy sc ns ht S env φ s A F =>
 wpAny_isTrue_value (h.use (and2 (ZR ht)).2 F λφ1 s1 u T1 r1 F1=>by rw[r1.bool_inv];exact wpAny_truthy_bool ⟨φ1,T1,rfl⟩) (GY (and2 (ZR ht)).1 env)
theorem Tst.not{e:Ce}{b:Bool}(h:Tst X r e ρ w b w1):Tst X r (.not e) ρ w (!b) w1:=λpy sc ns ht S env φ s A F=>(CN (aAe ht)).casesOn λo x p z=>by
 rw[of_decide_eq_true (and2 z).1]
 exact wpAny_isTrue_Not (h.use (and2 z).2 F λφ1 s1 T1 F1=>⟨φ1,T1,rfl⟩)
theorem Tst.bop{op:BoolOp}{es:Ces}{b:Bool}(h:qK X r op es ρ w b w1):Tst X r (.bop op es) ρ w b w1:=λpy sc ns ht S env φ s A F=>(Ap (aAg ht)).casesOn λo x p z=>by
 rw[of_decide_eq_true (and2 z).1]
 exact wpAny_isTrue_BoolOp (h.use (and2 z).2 F λφ1 s1 T1 F1=>⟨φ1,T1,rfl⟩)
theorem qK.andNil:qK X r .And .nil ρ w true w:=λpy sc ns ht S env φ s A F=>by
 rw[jR (SU ht)];exact wpAny_allTrue_And_nil ⟨φ,.refl F.C,rfl⟩
theorem qK.orNil:qK X r .Or .nil ρ w false w:=λpy sc ns ht S env φ s A F=>by
 rw[jR (SU ht)];exact wpAny_allTrue_Or_nil ⟨φ,.refl F.C,rfl⟩
theorem qK.andF{e:Ce}{es:Ces}(h:Tst X r e ρ w false w1):qK X r .And (.cons e es) ρ w false w1:=λpy sc ns ht S env φ s A F=>(gX (Fi ht)).casesOn λp ps x y =>
 wpAny_allTrue_And_cons (h.use x F λφ1 s1 T1 F1=>⟨φ1,T1,rfl⟩)
theorem qK.andT{e:Ce}{es:Ces}{b:Bool}(h:Tst X r e ρ w true w1)(h2:qK X r .And es ρ w1 b w2):qK X r .And (.cons e es) ρ w b w2:=λpy sc ns ht S env φ s A F=>(gX (Fi ht)).casesOn λp ps x y =>
 wpAny_allTrue_And_cons (h.use x F λφ1 s1 T1 F1=>h2.use y F1 λφ2 s2 T2 F2=>⟨φ2,T1.trans T2,rfl⟩)
theorem qK.orT{e:Ce}{es:Ces}(h:Tst X r e ρ w true w1):qK X r .Or (.cons e es) ρ w true w1:=λpy sc ns ht S env φ s A F=>(gX (Fi ht)).casesOn λp ps x y =>
 wpAny_allTrue_Or_cons (h.use x F λφ1 s1 T1 F1=>⟨φ1,T1,rfl⟩)
theorem qK.orF{e:Ce}{es:Ces}{b:Bool}(h:Tst X r e ρ w false w1)(h2:qK X r .Or es ρ w1 b w2):qK X r .Or (.cons e es) ρ w b w2:=λpy sc ns ht S env φ s A F=>(gX (Fi ht)).casesOn λp ps x y =>
 wpAny_allTrue_Or_cons (h.use x F λφ1 s1 T1 F1=>h2.use y F1 λφ2 s2 T2 F2=>⟨φ2,T1.trans T2,rfl⟩)
theorem Ev.land{a b:Ex}{x y:Bool}(h1:Ev X r a ρ w (.bool x) w1)(h2:x=true→Ev X r b ρ w1 (.bool y) w2)(h3:x=false→y=false∧w2=w1):Ev X r (.and2 a b) ρ w (.bool y) w2:=λpy sc ns ht S env φ s A F=>(Ap (TU ht)).casesOn λo vs p z=>by
 rw[of_decide_eq_true (and2 z).1]
 refine(AQ (and2 z).2).casesOn λe f p q=>wpAny_And2 (h1.use p F λφ1 s1 u T1 r1 F1=>?_)
 rw[r1.bool_inv]
 refine wpAny_truthy_bool ?_
 cases x with
 |false=>obtain⟨rfl,rfl⟩:=h3 rfl;exact⟨φ1,T1,.bool _⟩
 |true=>exact(h2 rfl).use q F1 λφ2 s2 v T2 r2 F2=>⟨φ2,T1.trans T2,r2⟩
theorem Ev.ite{c:Ce}{a b:Ex}{t:Bool}{d:V}(h:Tst X r c ρ w t w1)(h1:Ev X r (if t then a else b) ρ w1 d w2):Ev X r (.ite c a b) ρ w d w2:=λpy sc ns ht S env φ s A F=>(LP (YQ ht)).casesOn λc a b p z =>
 wpAny_IfExp (h.use (and2 z).1 F λφ1 s1 T1 F1=>by
  cases t
  ·exact h1.use (and2 (and2 z).2).2 F1 λφ2 s2 v T2 r2 F2=>⟨φ2,T1.trans T2,r2⟩
  ·exact h1.use (and2 (and2 z).2).1 F1 λφ2 s2 v T2 r2 F2=>⟨φ2,T1.trans T2,r2⟩)
theorem Ev.neg{a:Ex}{i:Int}(h:Ev X r a ρ w (.int i) w1):Ev X r (.neg a) ρ w (.int (-i)) w1:=λpy sc ns ht S env φ s A F=>(CN (YN ht)).casesOn λo x p z=>by
 rw[of_decide_eq_true (and2 z).1]
 exact wpAny_UnaryOp (h.use (and2 z).2 F λφ1 s1 u T1 r1 F1=>r1.int_inv.casesOn λt=>PyProof.Rows.neg_int ⟨φ1,T1.toks _,.int _ _⟩)
end
section
variable{X:Pk}{r:Nat}{w:W}{i j:Int}
theorem Op2.ints{f:Value→Value→Sem Value}{d:V}(h:∀φ s A t u,Cst X φ w s→WP X A (f (.int i t) (.int j u)) (hH X φ w s d w) s):Op2 X r f (.int i) (.int j) w d w:=λφ s A u v a b C M =>
 a.int_inv.casesOn λt=>b.int_inv.casesOn λt'=>h φ s A t t' C
theorem Bin.add:Bin X r .Add (.int i) (.int j) w (.int (i+j)) w:=.ints λφ s A t u C=>PyProof.Rows.add_int ⟨φ,(fR.refl C).toks _,.int _ _⟩
theorem Bin.sub:Bin X r .Sub (.int i) (.int j) w (.int (i-j)) w:=.ints λφ s A t u C=>PyProof.Rows.sub_int ⟨φ,(fR.refl C).toks _,.int _ _⟩
theorem Bin.mod(hj:j≠0):Bin X r .Mod (.int i) (.int j) w (.int (i.fmod j)) w:=.ints λφ s A t u C=>PyProof.Rows.mod_int hj ⟨φ,(fR.refl C).toks _,.int _ _⟩
theorem Bin.fdiv(hj:j≠0)(hs:j.natAbs<1000000):Bin X r .FloorDiv (.int i) (.int j) w (.int (i.fdiv j)) w:=.ints λφ s A t u C=>PyProof.Rows.floordiv_int hj ⟨φ,(fR.refl C).toks _,.int _ _⟩ (.inl (PyProof.noPylong_small (by exact aM hs (Nat.succ_lt_succ (cH.mp (Int.NonNeg.mk (1073741823-eY 999998)))))))
theorem Bin.pow(hj:0≤j)(hj2:j≤1000)(hi:i.natAbs<2^64):Bin X r .Pow (.int i) (.int j) w (.int (i^j.toNat)) w:=.ints λφ s A t u C=>PyProof.Rows.pow_int_small hj (by lia) hi ⟨φ,(fR.refl C).toks _,.int _ _⟩
theorem Cmp.lt:Cmp X r .Lt (.int i) (.int j) w (decide (i<j)) w:=.ints λφ s A t u C=>PyProof.Rows.lt_int ⟨φ,.refl C,.bool _⟩
theorem Cmp.gt:Cmp X r .Gt (.int i) (.int j) w (decide (j<i)) w:=.ints λφ s A t u C=>PyProof.Rows.gt_int ⟨φ,.refl C,.bool _⟩
theorem Cmp.le:Cmp X r .LtE (.int i) (.int j) w (decide (i≤j)) w:=.ints λφ s A t u C=>PyProof.Rows.le_int ⟨φ,.refl C,.bool _⟩
theorem Cmp.ge:Cmp X r .GtE (.int i) (.int j) w (decide (j≤i)) w:=.ints λφ s A t u C=>PyProof.Rows.ge_int ⟨φ,.refl C,.bool _⟩
noncomputable def DL(d:V):Bool:=V.casesOn (motive_1:=λξ=>Bool) d false true (λξ=>false) (λξ=>false) (λξ=>false) (λξ=>false) (λξ=>false) (λξ ξ=>false)
noncomputable def notSet(d:V):Bool:=V.casesOn (motive_1:=λξ=>Bool) d false true (λξ=>true) (λξ=>true) (λξ=>true) (λξ=>true) (λξ=>true) (λξ ξ=>true)
theorem Cmp.isNone{d:V}(hd:notSet d=true):Cmp X r .Is d .none w (DL d) w:=λφ s A u v a b C M=>by
 rw[b.none_inv]
 refine is_none ⟨φ,.refl C,?_⟩
 cases d with
 |unset=>exact absurd hd bC
 |none=>rw[a.none_inv];exact .bool _
 |bool b=>rw[a.bool_inv];exact .bool _
 |int i=>exact a.int_inv.casesOn λt=>.bool _
 |str i=>exact a.str_inv.casesOn (λt ξ=>.bool _) λξ=>.bool _
 |tup i=>exact a.tup_inv.casesOn λξ ξ ξ ξ ξ ξ ξ=>.bool _
 |ref i=>exact a.ref_inv.casesOn λξ ξ=>.bool _
 |obj i=>exact a.obj_inv.casesOn λξ ξ ξ ξ=>.bool _
theorem Cmp.isNotNone{d:V}(hd:notSet d=true):Cmp X r .IsNot d .none w (!DL d) w:=λφ s A u v a b C M=>by
 rw[b.none_inv]
 refine isNot_none ⟨φ,.refl C,?_⟩
 cases d with
 |unset=>exact absurd hd bC
 |none=>rw[a.none_inv];exact .bool _
 |bool b=>rw[a.bool_inv];exact .bool _
 |int i=>exact a.int_inv.casesOn λt=>.bool _
 |str i=>exact a.str_inv.casesOn (λt ξ=>.bool _) λξ=>.bool _
 |tup i=>exact a.tup_inv.casesOn λξ ξ ξ ξ ξ ξ ξ=>.bool _
 |ref i=>exact a.ref_inv.casesOn λξ ξ=>.bool _
 |obj i=>exact a.obj_inv.casesOn λξ ξ ξ ξ=>.bool _
theorem Cmp.isBool{x y:Bool}:Cmp X r .Is (.bool x) (.bool y) w (x==y) w:=λφ s A u v a b C M=>by
 rw[a.bool_inv,b.bool_inv];exact is_bool ⟨φ,.refl C,.bool _⟩
theorem Cmp.isNotBool{x y:Bool}:Cmp X r .IsNot (.bool x) (.bool y) w (!(x==y)) w:=λφ s A u v a b C M=>by
 rw[a.bool_inv,b.bool_inv]
 refine wpAny_isNot_plain (by cases x<;>cases y<;>rfl) ⟨φ,.refl C,?_⟩
 cases x<;>cases y<;>exact .bool _
end
noncomputable def rds(f:V→Option PyData):List V→Option (List PyData):=List.rec (some []) λd ξ r=>(f d).bind λp=>r.map (p::·)
noncomputable def rd(w:W):Nat→V→Option PyData:=Nat.rec
 (λd=>V.casesOn (motive_1:=λξ=>Option PyData) d none (some .none) (λb=>some (.bool b)) (λi=>some (.int i)) (λk=>if k<6 then some (.str (lF k)) else none) (λξ=>none) (λξ=>none) λξ ξ=>none)
 λk R d=>V.casesOn (motive_1:=λξ=>Option PyData) d none (some .none) (λb=>some (.bool b)) (λi=>some (.int i)) (λk=>if k<6 then some (.str (lF k)) else none) (λds=>(rds R ds).map .tuple)
  (λn=>(w.get n).bind λc=>hW.casesOn (motive:=λξ=>Option PyData) c (λds=>(rds R ds).map .list) (λξ=>none) λξ=>none) λξ ξ=>none
theorem QV:∀x,x<6→PyData.strOk (lF x)=true:=by decide +kernel
structure BP(X:Pk)(w:W)(k:Nat)(d:V)(p:PyData):Prop where
 lay:p.canLay0=true
 depth:p.depth≤k
 reads:∀φ s,Cst X φ w s→∀v,Rep X φ s.heap v d→∃as,Reads s.heap v p as
structure Zi(X:Pk)(w:W)(k:Nat)(ds:List V)(ps:List PyData):Prop where
 lay:PyData.canLayAll0 ps=true
 depth:PyData.depthAll ps≤k
 reads:∀φ s,Cst X φ w s→∀vs,fU X φ s.heap vs ds→∃as,ReadsAll s.heap vs ps as
theorem dd{k:Nat}{p:PyData}(h:p.depth=0:=by simp[PyData.depth]):p.depth≤k:=by rw[h];exact cX _
section
variable{X:Pk}{w:W}{k:Nat}
theorem Cs{f:V→Option PyData}(hf:∀d p,f d=some p→BP X w k d p):∀(ds:List V) (ps:List PyData),rds f ds=some ps→Zi X w k ds ps:=
 List.rec (λps h=>by cases (Option.some.inj h);exact⟨rfl,by simp[PyData.depthAll],λφ s C vs r=>by rw[r.nil_inv];exact⟨_,.nil⟩⟩) λd ds ih ps h=>by
  obtain⟨p,h1,h2⟩:=aH.mp h
  obtain⟨qs,h3,rfl⟩:=bE.mp h2
  have a:=hf _ _ h1
  have b:=ih _ h3
  refine⟨by simp[PyData.canLayAll0,a.lay,b.lay],?_,λφ s C vs r=>r.cons_inv.casesOn λv us r1 r2=>(a.reads _ _ C _ r1).elim λas q=>(b.reads _ _ C _ r2).elim λbs q2=>⟨_,.cons q q2⟩⟩
  exact Nat.max_le.mpr ⟨a.depth,b.depth⟩
theorem Mq{x:Nat}{p:PyData}(h:(if x<6 then some (PyData.str (lF x)) else none)=some p):BP X w k (.str x) p:=by
 by_cases q:x<6
 ·rw[if_pos q] at h;cases (Option.some.inj h);exact⟨by simpa [PyData.canLay0] using QV x q,dd,λφ s C v r=>r.str_inv.casesOn (λt ξ=>⟨_,.str _ _⟩) λe=>absurd (e▸q) (by decide)⟩
 ·rw[if_neg q] at h;cases h
theorem xL:∀(k:Nat) (d:V) (p:PyData),rd w k d=some p→BP X w k d p:=
 have hn:∀{k p},some PyData.none=some p→BP X w k .none p:=λh=>by cases (Option.some.inj h);exact⟨rfl,dd,λφ s C v r=>by rw[r.none_inv];exact⟨_,.none⟩⟩
 have hb:∀{k b p},some (PyData.bool b)=some p→BP X w k (.bool b) p:=λh=>by cases (Option.some.inj h);exact⟨rfl,dd,λφ s C v r=>by rw[r.bool_inv];exact⟨_,.bool _⟩⟩
 have hi:∀{k b p},some (PyData.int b)=some p→BP X w k (.int b) p:=λh=>by cases (Option.some.inj h);exact⟨rfl,dd,λφ s C v r=>r.int_inv.casesOn λt=>⟨_,.int _ _⟩⟩
 Nat.rec (λd=>V.casesOn (motive_1:=λd=>∀p,rd w 0 d=some p→BP X w 0 d p) d (λp h=>nomatch h) (λp=>hn) (λb p=>hb) (λi p=>hi) (λx p=>Mq) (λξ p h=>nomatch h) (λξ p h=>nomatch h) (λξ ξ p h=>nomatch h))
  λk ih d=>V.casesOn (motive_1:=λd=>∀p,rd w (k+1) d=some p→BP X w (k+1) d p) d (λp h=>nomatch h) (λp=>hn) (λb p=>hb) (λi p=>hi) (λx p=>Mq)
   (λds p h=>by
    obtain⟨ps,h1,rfl⟩:=bE.mp (show(rds (rd w k) ds).map .tuple=some p from h)
    have q:=Cs ih _ _ h1
    refine⟨by simpa [PyData.canLay0] using q.lay,?_,λφ s C v r=>r.tup_inv.casesOn λa n vs e rs ξ ξ=>(q.reads _ _ C _ rs).elim λas z=>⟨_,.tuple e rfl rfl (by simpa using z)⟩⟩
    have:=q.depth
    simp only[PyData.depth];simp +arith [*])
   (λn p h=>by
    obtain⟨c,h0,h⟩:=aH.mp (show((w.get n).bind λc=>hW.casesOn (motive:=λξ=>Option PyData) c (λds=>(rds (rd w k) ds).map .list) (λξ=>none) λξ=>none)=some p from h)
    cases c with
    |list ds =>
     obtain⟨ps,h1,rfl⟩:=bE.mp (show(rds (rd w k) ds).map .list=some p from h)
     have q:=Cs ih _ _ h1
     refine⟨by simpa [PyData.canLay0] using q.lay,?_,λφ s C v r=>r.ref_inv.casesOn λa e=>(gL C h0 e).casesOn λn vs e rs ξ=>(q.reads _ _ C _ rs).elim λas z=>⟨_,.list e rfl rfl (by simpa using z)⟩⟩
     have:=q.depth
     simp only[PyData.depth];simp +arith [*]
    |dict=>cases h
    |ns=>cases h)
   (λξ ξ p h=>nomatch h)
theorem BP.shaped{d:V}{p:PyData}(h:BP X w k d p)(hk:k≤64):SeqAt.shaped p=true:=by
 unfold SeqAt.shaped
 rw[h.lay,Bool.true_and]
 exact decide_eq_true (aE h.depth hk)
end
noncomputable def eqV(w:W)(a b:V):Option Bool:=(rd w 8 a).bind λp=>(rd w 8 b).map λq=>PyData.eqv p q
noncomputable def inL(w:W)(a:V)(ds:List V):Option Bool:=(rd w 8 a).bind λp=>(rds (rd w 8) ds).map λqs=>qs.any λy=>PyData.eqv y p
section
variable{X:Pk}{r:Nat}{w:W}
theorem lM.u64{r:Nat}{A:Around}(M:lM r A):A.units+200<cLine:=by
 exact aQ (Nat.add_le_add_right (aE (dG _ _) M.units) 200) (by decide)
theorem lM.u{r:Nat}{A:Around}(M:lM r A){n:Nat}(h:n≤200):A.units+n<cLine:=aQ (fO h _) M.u64
theorem Cmp.eq{a b:V}{c:Bool}(h:eqV w a b=some c):Cmp X r .Eq a b w c w:=λφ s A u v r1 r2 C M=>by
 obtain⟨p,h1,h⟩:=aH.mp h
 obtain⟨q,h2,rfl⟩:=bE.mp h
 have ha:=xL (X:=X) _ _ _ h1
 have hb:=xL (X:=X) _ _ _ h2
 exact(ha.reads _ _ C _ r1).elim λas z1=>(hb.reads _ _ C _ r2).elim λbs z2=>eq_dataH z1 z2 (ha.shaped (by decide)) (hb.shaped (by decide)) (M.u (by decide)) ⟨φ,.refl C,.bool _⟩
theorem Cmp.ne{a b:V}{c:Bool}(h:eqV w a b=some c):Cmp X r .NotEq a b w (!c) w:=λφ s A u v r1 r2 C M=>by
 obtain⟨p,h1,h⟩:=aH.mp h
 obtain⟨q,h2,rfl⟩:=bE.mp h
 have ha:=xL (X:=X) _ _ _ h1
 have hb:=xL (X:=X) _ _ _ h2
 exact(ha.reads _ _ C _ r1).elim λas z1=>(hb.reads _ _ C _ r2).elim λbs z2=>ne_dataH z1 z2 (ha.shaped (by decide)) (hb.shaped (by decide)) (M.u (by decide)) ⟨φ,.refl C,.bool _⟩
theorem Iw{A:Around}{p:PyData}{qs:List PyData}(M:lM r A)(h:p.depth≤8):A.units+1+min (PyData.depthAll qs) p.depth<cLine:=by
 exact aQ (fO (aE (eI _ _) h) (A.units+1)) (M.u (n:=9) (by decide))
theorem Cmp.inL{a:V}{n:Nat}{ds:List V}{c:Bool}(hn:w.get n=some (.list ds))(h:Mine.inL w a ds=some c):Cmp X r .In a (.ref n) w c w:=λφ s A u v r1 r2 C M=>by
 obtain⟨p,h1,h⟩:=aH.mp h
 obtain⟨qs,h2,rfl⟩:=bE.mp h
 have ha:=xL (X:=X) _ _ _ h1
 have hb:=Cs (xL (X:=X) 8) _ _ h2
 exact(ha.reads _ _ C _ r1).elim λas z1=>r2.ref_inv.casesOn λl e=>(gL C hn e).casesOn λk vs e rs ξ=>(hb.reads _ _ C _ rs).elim λbs z2 =>
  SeqAt.in_list_reads (.list e rfl rfl (by simpa using z2)) z1 hb.lay ha.lay (Iw M ha.depth) ⟨φ,.refl C,.bool _⟩
theorem Cmp.notInL{a:V}{n:Nat}{ds:List V}{c:Bool}(hn:w.get n=some (.list ds))(h:Mine.inL w a ds=some c):Cmp X r .NotIn a (.ref n) w (!c) w:=λφ s A u v r1 r2 C M=>by
 obtain⟨p,h1,h⟩:=aH.mp h
 obtain⟨qs,h2,rfl⟩:=bE.mp h
 have ha:=xL (X:=X) _ _ _ h1
 have hb:=Cs (xL (X:=X) 8) _ _ h2
 exact(ha.reads _ _ C _ r1).elim λas z1=>r2.ref_inv.casesOn λl e=>(gL C hn e).casesOn λk vs e rs ξ=>(hb.reads _ _ C _ rs).elim λbs z2 =>
  SeqAt.notIn_list_reads (.list e rfl rfl (by simpa using z2)) z1 hb.lay ha.lay (Iw M ha.depth) ⟨φ,.refl C,.bool _⟩
theorem Kvs.get0{X:Pk}{φ h}{k:Int}:∀(ds:List (Int×V)) (kvs:List (Int×Value)),Kvs X φ h kvs ds→(kvs.lookup k=none∧ds.lookup k=none)∨∃v d,kvs.lookup k=some v∧ds.lookup k=some d∧Rep X φ h v d:=
 List.rec (λkvs r=>by rw[show kvs=[] from r];exact .inl ⟨rfl,rfl⟩) λp ds ih kvs r=>r.cons_inv.casesOn λq us a r=>a.casesOn λv a=>by
  rw[dC,dC]
  cases q:k==p.1 with
  |true=>exact .inr ⟨_,_,rfl,rfl,a⟩
  |false=>exact ih us r
theorem Kvs.get{X:Pk}{φ h}{k:Int}{kvs:List (Int×Value)}{ds:List (Int×V)}(r:Kvs X φ h kvs ds){d:V}(e:ds.lookup k=some d):∃v,kvs.lookup k=some v∧Rep X φ h v d:=by
 rcases Kvs.get0 (k:=k) _ _ r with⟨_,h2⟩ | ⟨v,d',h1,h2,h3⟩
 ·rw[e] at h2;cases h2
 ·rw[e] at h2;cases h2;exact⟨v,h1,h3⟩
theorem Kvs.isSome{X:Pk}{φ h}{k:Int}{kvs:List (Int×Value)}{ds:List (Int×V)}(r:Kvs X φ h kvs ds):(kvs.lookup k).isSome=(ds.lookup k).isSome:=by
 rcases Kvs.get0 (k:=k) _ _ r with⟨h1,h2⟩ | ⟨v,d',h1,h2,h3⟩<;>rw[h1,h2]<;>rfl
theorem Kvs.len{X:Pk}{φ h}:∀(ds:List (Int×V)) (kvs:List (Int×Value)),Kvs X φ h kvs ds→kvs.length=ds.length:=
 List.rec (λkvs r=>by rw[show kvs=[] from r];rfl) λp ds ih kvs r=>r.cons_inv.casesOn λq us a r=>congrArg (· + 1) (ih us r)
end
noncomputable def kY(d:V):Option Int:=V.casesOn (motive_1:=λξ=>Option Int) d none none (λξ=>none) some (λξ=>none) (λξ=>none) (λξ=>none) λξ ξ=>none
noncomputable def Fj(d:V):Option Bool:=V.casesOn (motive_1:=λξ=>Option Bool) d none none some (λξ=>none) (λξ=>none) (λξ=>none) (λξ=>none) λξ ξ=>none
noncomputable def GE(d:V):Option (List V):=V.casesOn (motive_1:=λξ=>Option (List V)) d none none (λξ=>none) (λξ=>none) (λξ=>none) some (λξ=>none) λξ ξ=>none
noncomputable def Cr(d:V):Option Nat:=V.casesOn (motive_1:=λξ=>Option Nat) d none none (λξ=>none) (λξ=>none) (λξ=>none) (λξ=>none) some λξ ξ=>none
noncomputable def Xn(d:V):Option (Nat×Nat):=V.casesOn (motive_1:=λξ=>Option (Nat×Nat)) d none none (λξ=>none) (λξ=>none) (λξ=>none) (λξ=>none) (λξ=>none) λc n=>some (c,n)
noncomputable def pJ(c:hW):Option (List V):=hW.casesOn c some (λξ=>none) λξ=>none
noncomputable def ZL(c:hW):Option (List (Int×V)):=hW.casesOn c (λξ=>none) some λξ=>none
noncomputable def nsC(c:hW):Option (List (Nat×V)):=hW.casesOn c (λξ=>none) (λξ=>none) some
theorem hU{d i}(h:kY d=some i):d=.int i:=by cases d<;>first | exact congrArg _ (Option.some.inj h) | cases h
theorem pY{d i}(h:Fj d=some i):d=.bool i:=by cases d<;>first | exact congrArg _ (Option.some.inj h) | cases h
theorem pF{d i}(h:GE d=some i):d=.tup i:=by cases d<;>first | exact congrArg _ (Option.some.inj h) | cases h
theorem pG{d i}(h:Cr d=some i):d=.ref i:=by cases d<;>first | exact congrArg _ (Option.some.inj h) | cases h
theorem NC{d i}(h:Xn d=some i):d=.obj i.1 i.2:=by cases d<;>first | (cases (Option.some.inj h);rfl) | cases h
theorem sG{d i}(h:pJ d=some i):d=.list i:=by cases d<;>first | exact congrArg _ (Option.some.inj h) | cases h
theorem Wd{d i}(h:ZL d=some i):d=.dict i:=by cases d<;>first | exact congrArg _ (Option.some.inj h) | cases h
theorem RM{d i}(h:nsC d=some i):d=.ns i:=by cases d<;>first | exact congrArg _ (Option.some.inj h) | cases h
noncomputable def iS(w:W)(d:V):Option (List V):=(Cr d).bind λn=>(w.get n).bind pJ
inductive Jb(w:W)(l:List V):V→Prop | mk (n:Nat):w.get n=some (.list l)→Jb w l (.ref n)
theorem jI{w d l}(h:iS w d=some l):Jb w l d:=by
 obtain⟨n,h1,h⟩:=aH.mp h
 obtain⟨c,h2,h⟩:=aH.mp h
 rw[pG h1]
 exact⟨n,by rw[h2,sG h]⟩
noncomputable def FK(c:hW)(i:Int):Option V:=hW.casesOn c (λds=>(seqIndex? i ds.length).bind λj=>ds[j]?) (λkvs=>kvs.lookup i) λξ=>none
noncomputable def jF(w:W)(a i:V):Option V:=(kY i).bind λi=>V.casesOn (motive_1:=λξ=>Option V) a none none (λξ=>none) (λξ=>none) (λξ=>none) (λds=>(seqIndex? i ds.length).bind λj=>ds[j]?) (λn=>(w.get n).bind λc=>FK c i) λξ ξ=>none
inductive Zp(X:Pk)(u:Value)(s:Shared):Prop | mk (T id:String):s.TypeIs u T→typeLookup (.type T) "__getitem__" = pure (some (.builtin id))→Zp X u s
noncomputable def Itm(X:Pk)(r:Nat)(a i:V)(w:W)(d:V):Prop:=
 ∀φ s A u v,Rep X φ s.heap u a→Rep X φ s.heap v i→Cst X φ w s→lM r A→Zp X u s∧WP X A (getItem u v) (hH X φ w s d w) s
section
variable{X:Pk}{r:Nat}{ρ:List V}{w w1 w2 w3:W}
theorem Ev.idx{a i:Ex}{d e f:V}(h1:Ev X r a ρ w d w1)(h2:Ev X r i ρ w1 e w2)(h:Itm X r d e w2 f):Ev X r (.idx a i) ρ w f w2:=λpy sc ns ht S env φ s A F=>(jQ (YS ht)).casesOn λv i p z =>
 Subscript_ (h1.use (and2 z).1 F λφ1 s1 u T1 r1 F1=>h2.use (and2 z).2 F1 λφ2 s2 v T2 r2 F2 =>
  have g:=h φ2 s2 A u v (r1.step F1.C T2) r2 F2.C F.M
  g.1.casesOn λT id ha hb=>tail_any ha hb (g.2.mono λv s' q=>q.after (T1.trans T2)) ((Tr.plain (and2 z).2).slice _ _))
theorem wB{i:Int}{n j:Nat}(h:seqIndex? i n=some j):j<n∧(i=j∨i=(j:Int)-n):=by
 have key:∀k:Int,(if(decide (0≤k)&&decide (k<n))=true then some k.toNat else none)=some j→j<n∧k=j:=λk h=>by
  by_cases q:(decide (0≤k)&&decide (k<n))=true
  ·rw[if_pos q] at h
   have e:k=j:=(dA (of_decide_eq_true (and2 q).1)).symm.trans (congrArg Nat.cast (Option.some.inj h))
   exact⟨cH.mp (e▸of_decide_eq_true (and2 q).2),e⟩
  ·exact nomatch (if_neg q).symm.trans h
 have h1:∀k,(if i<0 then i+n else i)=k→j<n∧k=j:=λk e=>by subst e;exact key _ h
 by_cases hi:i<0
 ·exact(h1 _ (if_pos hi)).imp id λe=>.inr ((Int.add_sub_cancel i n).symm.trans (congrArg (· - (n:Int)) e))
 ·exact(h1 _ (if_neg hi)).imp id .inl
theorem Bg{i k:Int}{n:Nat}(e:(if i<0 then i+n else i)=k)(h0:0≤k)(h1:k<n):seqIndex? i n=some k.toNat:=by
 subst e;exact if_pos (bS.mpr ⟨decide_eq_true h0,decide_eq_true h1⟩)
theorem tO{i:Int}{n:Nat}(h0:0≤i)(h1:i<n):seqIndex? i n=some i.toNat:=Bg (if_neg (fG.mpr h0)) h0 h1
theorem tN{i:Int}{n:Nat}(h0:i<0)(h1:-(n:Int)≤i):seqIndex? i n=some (i+n).toNat:=
 Bg (if_pos h0) (Int.add_left_neg (n:Int)▸dQ h1 n) (lt_of_lt_of_eq (Int.add_lt_add_right h0 n) (Int.zero_add _))
theorem yS{i:Int}{n j:Nat}(h:j<n)(q:i=j∨i=(j:Int)-n):-(n:Int)≤i∧i<n:=
 q.elim (λe=>e▸⟨aS (Int.neg_nonpos_of_nonneg (bU n)) (bU j),cH.mpr h⟩)
  λe=>e▸⟨Int.neg_le_sub_right_of_le_add (Int.le_add_of_nonneg_left (bU j)),Int.lt_of_le_of_lt (Int.sub_le_self _ (bU n)) (cH.mpr h)⟩
theorem Sy{i:Int}{n:Nat}(h:-(n:Int)≤i∧i<n)(q:n≤lim):-2^63≤i∧i<2^63:=
 ⟨aS (aS (by decide) (Int.neg_le_neg (dP.mpr (show n≤100000 from q)))) h.1,fH h.2 (aS (dP.mpr (show n≤100000 from q)) (by decide))⟩
theorem Itm.tup{ds:List V}{i:Int}{j:Nat}{d:V}(hj:seqIndex? i ds.length=some j)(hd:ds[j]?=some d):Itm X r (.tup ds) (.int i) w d:=λφ s A u v a b C M=>b.int_inv.casesOn λt=>a.tup_inv.casesOn λa n vs e rs ξ hl=>by
 obtain⟨v,hv,rv⟩:=rs.get hd
 have⟨q1,q2⟩:=wB hj
 have g:=Sy (yS q1 q2) hl
 exact⟨⟨"tuple",_,⟨_,e,rfl⟩,PyProof.Rows.slot_tuple_getitem.lookup⟩,
   PyProof.Rows.getItem_tuple (j:=j) ⟨_,e,rfl,n,rfl⟩ g.1 g.2 (by rw[bY,rs.len];exact hj) (by simpa using hv) ⟨φ,.refl C,rv⟩⟩
theorem Itm.list{n:Nat}{ds:List V}{i:Int}{j:Nat}{d:V}(hn:w.get n=some (.list ds))(hj:seqIndex? i ds.length=some j)(hd:ds[j]?=some d):Itm X r (.ref n) (.int i) w d:=λφ s A u v a b C M=>b.int_inv.casesOn λt=>a.ref_inv.casesOn λa e=>(gL C hn e).casesOn λk vs e rs hl=>by
 obtain⟨v,hv,rv⟩:=rs.get hd
 have⟨q1,q2⟩:=wB hj
 have g:=Sy (yS q1 q2) hl
 have hL:s.heap.IsList a vs.toArray:=⟨_,e,rfl,k,rfl⟩
 refine⟨⟨"list",_,⟨_,e,rfl⟩,PySem.F.slot_list_getitem.lookup⟩,?_⟩
 rcases q2 with rfl | q2
 ·exact wpAny_getItem_list hL (bU _) g.2 (by simpa using hv) ⟨φ,.refl C,rv⟩
 ·refine wpAny_getItem_list_neg hL (q2▸Int.sub_neg_of_lt (cH.mpr q1)) ?_ g.1 ?_ ⟨φ,.refl C,rv⟩
  ·rw[bY,rs.len];exact(yS q1 (.inr q2)).1
  ·rw[bY,rs.len,q2,Int.sub_add_cancel];simpa using hv
theorem lE{β:Type}(k:Int):∀(kvs:List (Int×Value)),valueAt kvs k=kvs.lookup k
 |[]=>rfl
 |(a,b)::r=>by
  have ih:=lE (β:=β) k r
  unfold valueAt at ih ⊢
  rw[List.find?_cons,dC]
  by_cases h:a=k
  ·subst h;simp
  ·have h2:(k==a)=false:=by simp[Ne.symm h]
   simp only[h,decide_false,h2];exact ih
theorem Itm.dict{n:Nat}{kvs:List (Int×V)}{i:Int}{d:V}(hn:w.get n=some (.dict kvs))(hd:kvs.lookup i=some d):Itm X r (.ref n) (.int i) w d:=λφ s A u v a b C M=>b.int_inv.casesOn λt=>a.ref_inv.casesOn λa e=>(pX C hn e).casesOn λkvs' h rs hl=>by
 obtain⟨v,hv,rv⟩:=rs.get hd
 have hm:=h.mapOf
 rw[←lE (β:=Unit)] at hv
 exact⟨⟨"dict",_,hm.typeIs,slot_dict_getitem.lookup⟩,wpAny_getItem_of (knd:=intKind P X.w) (intKind_is _ _ _ _) hm hv ⟨φ,(fR.refl C).toks _,rv⟩⟩
theorem Itm.ok{a i d:V}(h:jF w a i=some d):Itm X r a i w d:=by
 obtain⟨k,hk,h⟩:=aH.mp h
 rw[hU hk]
 cases a with
 |tup ds=>exact(aH.mp h).elim λj z=>.tup z.1 z.2
 |ref n =>
  obtain⟨c,hn,h⟩:=aH.mp (show((w.get n).bind λc=>FK c k)=some d from h)
  cases c with
  |list ds=>exact(aH.mp h).elim λj z=>.list hn z.1 z.2
  |dict ds=>exact .dict hn h
  |ns=>cases h
 |_=>cases h
end
theorem kS(l:List Value):∀(m n:Nat),((List.range' m n).filterMap λi=>l[i]?)=(l.drop m).take n
 |m,0=>by simp
 |m,n+1=>by
  rw[List.range'_succ,List.filterMap_cons]
  by_cases h:m<l.length
  ·rw[aC h,kS l (m+1) n,eS h,List.take_succ_cons]
  ·rw[bN (by simp_all),kS l (m+1) n,List.drop_eq_nil_of_le (by exact aE (dN (Nat.le_of_not_lt h)) Nat.le.refl),List.drop_eq_nil_of_le (by simp_all)];simp
theorem zR(l:List Value)(k:Nat):slicePick l.toArray none (some (k:Int)) none=(l.take k).toArray:=by
 unfold slicePick sliceBounds
 simp only[Option.getD_none,bY]
 have e0:((1:Int)>0):=by decide
 have e2:¬((k:Int)<0):=by(simp at *;done)
 simp only[e0,e2,if_true,if_false]
 have e1:(max (0:Int) (min (k:Int) (l.length:Int)))=((min k l.length:Nat):Int):=(Int.max_eq_right (Int.le_min.mpr ⟨bU _,bU _⟩)).trans (Lean.Omega.Int.ofNat_min _ _).symm
 rw[e1]
 generalize hm:min k l.length=m
 unfold sliceRange
 simp only[e0,if_true]
 have e3:((if(0:Int)<(m:Int) then((m:Int)-0+1-1)/1 else 0)).toNat=m:=by split<;>simp_all
 rw[e3]
 have e4:(aX m).map (λj:Nat=>((0:Int)+1*(j:Int)).toNat)=List.range' 0 m:=by
  have:(λj:Nat=>((0:Int)+1*(j:Int)).toNat)=id:=by funext j;simp
  rw[this,List.map_id,List.range_eq_range']
 rw[e4]
 have:=kS l 0 m
 simp only[List.drop_zero] at this
 simp only[List.getElem?_toArray]
 rw[this,←hm]
 congr 1
 by_cases h:k≤l.length
 ·rw[Nat.min_eq_left h]
 ·rw[Nat.min_eq_right (by exact aE (dN Nat.le.refl) (Nat.lt_of_not_le h)),eC (by(simp at *;done)),eC (by exact aE (dN Nat.le.refl) (Nat.lt_of_not_le h))]
theorem GM(l:List Value)(k:Nat)(h:k≤l.length):slicePick l.toArray (some (k:Int)) none none=(l.drop k).toArray:=by
 unfold slicePick sliceBounds
 simp only[Option.getD_none,bY]
 have e0:((1:Int)>0):=by decide
 have e2:¬((k:Int)<0):=by(simp at *;done)
 simp only[e0,e2,if_true,if_false]
 have e1:(max (0:Int) (min (k:Int) (l.length:Int)))=(k:Int):=by rw[Int.min_eq_left (dP.mpr h),Int.max_eq_right (bU k)]
 rw[e1]
 unfold sliceRange
 simp only[e0,if_true]
 have e3:((if(k:Int)<(l.length:Int) then((l.length:Int)-k+1-1)/1 else 0)).toNat=l.length-k:=by split<;>simp_all
 rw[e3]
 have e4:(aX (l.length-k)).map (λj:Nat=>((k:Int)+1*(j:Int)).toNat)=List.range' k (l.length-k):=by
  rw[List.range_eq_range',List.range'_eq_map_range (s:=k),List.range_eq_range']
  exact fB λj ξ=>by rw[Int.one_mul];rfl
 rw[e4]
 have:=kS l k (l.length-k)
 simp only[List.getElem?_toArray]
 rw[this,eC (by simp)]
noncomputable def newList(ds:List V)(w:W):Option (V×W):=if ds.length≤lim then some (.ref w.next,w.add (.list ds)) else none
noncomputable def newTup(ds:List V)(w:W):Option (V×W):=if ds.length≤lim then some (.tup ds,w) else none
theorem oS{ds:List V}{w:W}{x:V×W}(h:newList ds w=some x):ds.length≤lim∧x=(.ref w.next,w.add (.list ds)):=by
 unfold newList at h
 by_cases q:ds.length≤lim
 ·rw[if_pos q] at h;exact⟨q,(Option.some.inj h).symm⟩
 ·rw[if_neg q] at h;cases h
theorem AE{ds:List V}{w:W}{x:V×W}(h:newTup ds w=some x):ds.length≤lim∧x=(.tup ds,w):=by
 unfold newTup at h
 by_cases q:ds.length≤lim
 ·rw[if_pos q] at h;exact⟨q,(Option.some.inj h).symm⟩
 ·rw[if_neg q] at h;cases h
section
variable{X:Pk}{r:Nat}{w:W}
theorem Bin.tup{xs ys:List V}(hl:(xs++ys).length≤lim):Bin X r .Add (.tup xs) (.tup ys) w (.tup (xs++ys)) w:=λφ s A u v a b C M=>by
 have a0:=a
 have b0:=b
 refine a.tup_inv.casesOn (motive:=λu ξ=>Rep X φ s.heap u (.tup xs)→WP X A (binaryOp .Add u v) (hH X φ w s (.tup (xs++ys)) w) s) (λl n vs ho rs ξ ξ a0=>?_) a0
 refine b.tup_inv.casesOn (motive:=λv ξ=>Rep X φ s.heap v (.tup ys)→WP X A (binaryOp .Add (.ref l) v) (hH X φ w s (.tup (xs++ys)) w) s) (λl2 n2 us ho2 rs2 ξ ξ b0=>?_) b0
 by_cases hv:vs=[]
 ·refine PySem.concat_meets ⟨_,ho,rfl⟩ ⟨_,ho2,rfl⟩ noFill_tuple_add seq_tuple_add PySem.F.slot_tuple_add PySem.F.entry_tuple_add (PySem.F.args_tuple_add_2 _ _)
   (tuple_addW0 l l2 vs.toArray us.toArray n n2 none none #[] #[] (by simp[hv])) ⟨ho,ho2,φ,.refl C,?_⟩
  have:xs=[]:=dD.mp (by rw[←rs.len,hv];rfl)
  rw[this];exact b0
 ·by_cases hw:us=[]
  ·refine PySem.concat_meets ⟨_,ho,rfl⟩ ⟨_,ho2,rfl⟩ noFill_tuple_add seq_tuple_add PySem.F.slot_tuple_add PySem.F.entry_tuple_add (PySem.F.args_tuple_add_2 _ _)
    (tuple_addW1 l l2 vs.toArray us.toArray n n2 none none #[] #[] (by simpa using hv) (by simp[hw])) ⟨ho,ho2,φ,.refl C,?_⟩
   have:ys=[]:=dD.mp (by rw[←rs2.len,hw];rfl)
   rw[this,cD];exact a0
  ·refine PySem.concat_meets ⟨_,ho,rfl⟩ ⟨_,ho2,rfl⟩ noFill_tuple_add seq_tuple_add PySem.F.slot_tuple_add PySem.F.entry_tuple_add (PySem.F.args_tuple_add_2 _ _)
    (tuple_addW2 l l2 vs.toArray us.toArray n n2 none none #[] #[] (by simpa using hv) (by simpa using hw) (by rw[bY,bY,rs.len,rs2.len,←aD];exact aE hl rD)) ⟨ho,ho2,?_⟩
   exact hH.newTup C (rs.app rs2) hl (by simp)
theorem Bin.list{m n:Nat}{xs ys:List V}(hm:w.get m=some (.list xs))(hn:w.get n=some (.list ys))(hl:(xs++ys).length≤lim):Bin X r .Add (.ref m) (.ref n) w (.ref w.next) (w.add (.list (xs++ys))):=λφ s A u v a b C M =>
 a.ref_inv.casesOn λl e1=>b.ref_inv.casesOn λl2 e2=>(gL C hm e1).casesOn λk vs ho rs ξ=>(gL C hn e2).casesOn λk2 us ho2 rs2 _ =>
 PySem.P.add_list ho ho2 (hH.newList C (rs.app rs2) hl (by simp)) (by rw[bY,bY,rs.len,rs2.len,←aD];exact aE hl rD)
theorem Ku(x:Value)(n:Nat):∀(acc:Array Value),(aV n #[x]).foldl (λx1 x2=>x1++x2) acc=acc++(aV n x).toArray:=by
 induction n with
 |zero=>intro acc;simp
 |succ n ih =>
  intro acc
  rw[List.replicate_succ,List.foldl_cons,ih]
  apply Array.toList_inj.mp
  simp[List.replicate_succ]
theorem fU.replicate{φ h v d}(r:Rep X φ h v d)(n:Nat):fU X φ h (aV n v) (aV n d):=Nat.rec .nil (λn ih=>.cons r ih) n
theorem Bin.mul{m:Nat}{x:V}{k:Int}(hm:w.get m=some (.list [x]))(hl:(aV k.toNat x).length≤lim)(hk:0≤k):Bin X r .Mult (.ref m) (.int k) w (.ref w.next) (w.add (.list (aV k.toNat x))):=λφ s A u v a b C M =>
 a.ref_inv.casesOn λl e1=>b.int_inv.casesOn λt=>(gL C hm e1).casesOn λn vs ho rs ξ=>by
 refine rs.one.casesOn (motive:=λvs ξ=>s.heap.get? l=some (listOf vs.toArray n)→WP X A (binaryOp .Mult (.ref l) (.int k t)) (hH X φ w s (.ref w.next) (w.add (.list (aV k.toNat x)))) s) (λv1 r1 ho=>?_) ho
 have h2:k.toNat≤100000:=by rw[dK] at hl;exact hl
 refine wpAny_binaryOp_repeat_ref (T:="list") (U:="int") (by decide) ⟨_,ho,rfl⟩ (λs'=>typeIs_int s' k t) noFill_list_mul PySem.F.fills_int_mul PySem.F.slot_int_rmul repeat_list PySem.F.slot_int_index.lookup
  (call_meets PySem.F.slot_int_rmul (typeIs_int s k t) PySem.F.entry_int_rmul (PySem.F.args_int_rmul_2 _ _) (int___rmul___int_list k t l #[v1] n)
   ⟨ho,rfl,⟨_,ho,rfl⟩,call_meets PySem.F.slot_list_mul ⟨_,ho,rfl⟩ PySem.F.entry_list_mul (PySem.F.args_list_mul_2 _ _)
    (AutoListH.list___mul___list_int_3 l #[v1] n k t (by rw[show Builtin.List.listFitsIndex k=true from bS.mpr ⟨decide_eq_true (aS (by decide) hk),decide_eq_true (Int.lt_of_le_of_lt (Int.toNat_le.mp h2) (by decide))⟩];exact bC) (by simp;lia) (by simp[Builtin.List.listTooLong,sizeLine];lia))
    ⟨ho,hH.newList C (fU.replicate r1 k.toNat) hl (by simp[Ku])⟩⟩)
end
noncomputable def Nt{α:Type}(a b:V)(f:Int→Int→Option α):Option α:=(kY a).bind λi=>(kY b).bind λj=>f i j
theorem vE{α:Type}{a b:V}{f:Int→Int→Option α}{x:α}(h:Nt a b f=some x):∃i j,a=.int i∧b=.int j∧f i j=some x:=by
 obtain⟨i,h1,h⟩:=aH.mp h
 obtain⟨j,h2,h⟩:=aH.mp h
 exact⟨i,j,hU h1,hU h2,h⟩
noncomputable def ZY(w:W)(a b:V):Option (V×W):=V.casesOn (motive_1:=λξ=>Option (V×W)) a none none (λξ=>none) (λi=>(kY b).map λj=>(.int (i+j),w)) (λξ=>none) (λxs=>(GE b).bind λys=>newTup (xs++ys) w)
 (λn=>(iS w (.ref n)).bind λxs=>(iS w b).bind λys=>newList (xs++ys) w) λξ ξ=>none
noncomputable def Xr(w:W)(a b:V):Option (V×W):=(iS w a).bind λxs=>(kY b).bind λk=>List.casesOn (motive:=λξ=>Option (V×W)) xs none λx r=>if r.isEmpty∧0≤k then newList (aV k.toNat x) w else none
noncomputable def Db(op:Operator)(w:W)(a b:V):Option (V×W):=if op=.Add then ZY w a b else if op=.Mult then Xr w a b else Nt a b λi j =>
 if op=.Sub then some (.int (i-j),w) else if op=.Mod∧j≠0 then some (.int (i.fmod j),w) else if op=.FloorDiv∧j≠0∧j.natAbs<1000000 then some (.int (i.fdiv j),w)
 else if op=.Pow∧0≤j∧j≤1000∧i.natAbs<2^64 then some (.int (i^j.toNat),w) else none
theorem lQ{α:Type}{c:Prop}[Decidable c]{a:α}{b:Option α}{x:α}(h:(if c then some a else b)=some x):(c∧a=x)∨b=some x:=by
 by_cases q:c
 ·rw[if_pos q] at h;exact .inl ⟨q,Option.some.inj h⟩
 ·rw[if_neg q] at h;exact .inr h
theorem jP{α:Type}{c:Prop}[Decidable c]{a b:Option α}{x:α}(h:(if c then a else b)=some x):(c∧a=some x)∨b=some x:=by
 by_cases q:c
 ·rw[if_pos q] at h;exact .inl ⟨q,h⟩
 ·rw[if_neg q] at h;exact .inr h
section
variable{X:Pk}{r:Nat}{w:W}
theorem Add.ok{a b:V}{x:V×W}(h:ZY w a b=some x):Bin X r .Add a b w x.1 x.2:=by
 cases a with
 |int i=>obtain⟨j,h1,rfl⟩:=bE.mp h;rw[hU h1];exact .add
 |tup xs =>
  obtain⟨ys,h1,h⟩:=aH.mp h
  obtain⟨h2,rfl⟩:=AE h
  rw[pF h1];exact .tup h2
 |ref n =>
  obtain⟨xs,h0,h⟩:=aH.mp (show((iS w (.ref n)).bind λxs=>(iS w b).bind λys=>newList (xs++ys) w)=some x from h)
  obtain⟨ys,h1,h⟩:=aH.mp h
  obtain⟨h2,rfl⟩:=oS h
  exact(jI h0).casesOn λm q=>(jI h1).casesOn λk q2=>.list q q2 h2
 |_=>cases h
theorem Mul.ok{a b:V}{x:V×W}(h:Xr w a b=some x):Bin X r .Mult a b w x.1 x.2:=
 (aH.mp h).elim λxs h=>(aH.mp h.2).elim λk h'=>(jI h.1).casesOn λm q=>by
 rw[hU h'.1]
 cases xs with
 |nil=>cases h'.2
 |cons y l =>
  refine(jP h'.2).elim (λh=>?_) λh=>nomatch h
  have e:=cF.mp h.1.1
  rw[e] at q
  rw[(oS h.2).2]
  exact .mul q (oS h.2).1 h.1.2
theorem Bin.ok{op:Operator}{a b:V}{x:V×W}(h:Db op w a b=some x):Bin X r op a b w x.1 x.2:=
 (jP h).elim (λq=>by rw[q.1];exact Add.ok q.2) λh=>(jP h).elim (λq=>by rw[q.1];exact Mul.ok q.2) λh=>by
 obtain⟨i,j,rfl,rfl,h⟩:=vE h
 exact(lQ h).elim (λq=>by rw[q.1,←q.2];exact .sub) λh=>(lQ h).elim (λq=>by rw[q.1.1,←q.2];exact .mod q.1.2) λh=>(lQ h).elim (λq=>by rw[q.1.1,←q.2];exact .fdiv q.1.2.1 q.1.2.2) λh =>
  (lQ h).elim (λq=>by rw[q.1.1,←q.2];exact .pow q.1.2.1 q.1.2.2.1 q.1.2.2.2) λh=>nomatch h
end
noncomputable def jD:List V→Option (List Int):=List.rec (some []) λd ξ r=>(kY d).bind λi=>r.map (i::·)
noncomputable def Nu(i:Int):List Int→List Int:=List.rec [i] λj r x=>if i≤j then i::j::r else j::x
noncomputable def qM:List Int→List Int:=List.rec [] λi ξ x=>Nu i x
theorem CE(i j:Int)(r:List Int):Nu i (j::r)=if i≤j then i::j::r else j::Nu i r:=rfl
noncomputable def qS(k:Nat):Value:=[.builtin "len",.type "range",.builtin "max",.builtin "min",.builtin "sum",.builtin "sorted",.type "tuple",.type "list",.type "set",.type "zip"].getD k .none
noncomputable def Fz(X:Pk)(r:Nat)(f:Value)(ds:List V)(w:W)(d:V)(w':W):Prop:=
 ∀φ s A vs,fU X φ s.heap vs ds→Cst X φ w s→lM r A→WP X A (call f vs) (hH X φ w s d w') s
noncomputable abbrev Blt(X:Pk)(r k:Nat)(ds:List V)(w:W)(d:V)(w':W):Prop:=Fz X r (qS k) ds w d w'
section
variable{X:Pk}{φ:List Addr}{h:Heap}
theorem fU.ints:∀(ds:List V) (vs:List Value),fU X φ h vs ds→∀{l:List Int},jD ds=some l→IntsAre vs l:=
 List.rec (λvs r l e=>by rw[r.nil_inv,←Option.some.inj e];exact .nil) λd ds ih vs r l e=>(aH.mp e).elim λi q=>(bE.mp q.2).elim λl' z=>by
  rw[←z.2]
  exact r.cons_inv.casesOn λv us a r=>by
   rw[hU q.1] at a
   exact a.int_inv.casesOn λt=>.cons _ _ (ih us r z.1)
theorem IntsAre.reps{vs:List Value}{l:List Int}(h1:IntsAre vs l):fU X φ h vs (l.map .int):=by
 induction h1 with
 |nil=>exact .nil
 |cons n t r ih=>exact .cons (.int n t) ih
end
theorem wP(i:Int):∀l:List Int,(Nu i l).Perm (i::l)
 |[]=>.refl _
 |j::r=>by
  rw[CE]
  by_cases q:i≤j
  ·rw[if_pos q]
  ·rw[if_neg q];exact((wP i r).cons j).trans (.swap i j r)
theorem lW:∀l:List Int,(qM l).Perm l
 |[]=>.refl _
 |i::r=>(wP i (qM r)).trans ((lW r).cons i)
theorem xT(i:Int):∀l:List Int,l.Pairwise (·≤·)→(Nu i l).Pairwise (·≤·)
 |[],_=>.cons (λξ h=>nomatch h) .nil
 |j::r,h=>by
  have h':=List.pairwise_cons.mp h
  rw[CE]
  by_cases q:i≤j
  ·rw[if_pos q]
   refine List.pairwise_cons.mpr ⟨λx hx=>?_,h⟩
   rcases bJ.mp hx with rfl | hx
   ·exact q
   ·exact aS q (h'.1 x hx)
  ·rw[if_neg q]
   refine List.pairwise_cons.mpr ⟨λx hx=>?_,xT i r h'.2⟩
   rcases bJ.mp ((wP i r).mem_iff.mp hx) with rfl | hx
   ·lia
   ·exact h'.1 x hx
theorem uI:∀l:List Int,(qM l).Pairwise (·≤·)
 |[]=>.nil
 |i::r=>xT i _ (uI r)
theorem sX{a b:List Int}(p:a.Perm b)(ha:a.Pairwise (·≤·))(hb:b.Pairwise (·≤·)):a=b:=
 p.eq_of_pairwise (λξ ξ ξ ξ h1 h2=>Int.le_antisymm h1 h2) ha hb
theorem EM{l l':List Int}(p:l'.Perm l)(h:l'.Pairwise (·≤·)):l'=qM l:=sX (p.trans (lW l).symm) h (uI l)
section
variable{X:Pk}{φ:List Addr}{w:W}{s:Shared}
theorem hH.int(C:Cst X φ w s)(i:Int)(t k:Tok):hH X φ w s (.int i) w (.int i t) {s with toks:=k}:=⟨φ,(fR.refl C).toks _,.int _ _⟩
theorem hH.intG(C:Cst X φ w s)(i:Int)(t k:Tok){h':Heap}(hk:∀b o,s.heap.get? b=some o→h'.get? b=some o):hH X φ w s (.int i) w (.int i t) {s with heap:=h',toks:=k}:=
 ⟨φ,(fR.grow (s':={s with heap:=h'}) C hk rfl rfl).toks _,.int _ _⟩
end
theorem FX{n m:Nat}(e:n=m)(h:m≤lim):(n:Int)<2^63:=by subst e;have:lim=100000:=rfl;lia
theorem kL{vs:List Value}{n:Nat}(e:vs.length=n)(h:n≤lim):vs.toArray.size≤sizeLine:=by rw[bY,e];exact aE h rD
section
variable{X:Pk}{r:Nat}{w:W}
theorem Blt.one{k:Nat}{a d:V}{w':W}(h:∀φ s A v,Rep X φ s.heap v a→Cst X φ w s→lM r A→WP X A (call (qS k) [v]) (hH X φ w s d w') s):Blt X r k [a] w d w':=λφ s A vs R C M=>R.one.casesOn λv a=>h φ s A v a C M
theorem Blt.onL{k n:Nat}{ds:List V}{d:V}{w':W}(hn:w.get n=some (.list ds))(h:∀φ s A a c vs,s.heap.get? a=some (listOf vs.toArray c)→fU X φ s.heap vs ds→ds.length≤lim→Cst X φ w s→lM r A→WP X A (call (qS k) [.ref a]) (hH X φ w s d w') s):Blt X r k [.ref n] w d w':=
 .one λφ s A v a C M=>a.ref_inv.casesOn λl e=>(gL C hn e).casesOn λc vs ho rs hl=>h φ s A l c vs ho rs hl C M
theorem Blt.onT{k:Nat}{ds:List V}{d:V}{w':W}(h:∀φ s A a c vs,s.heap.get? a=some (lV vs.toArray c)→fU X φ s.heap vs ds→¬X.ban a→ds.length≤lim→Cst X φ w s→lM r A→WP X A (call (qS k) [.ref a]) (hH X φ w s d w') s):Blt X r k [.tup ds] w d w':=
 .one λφ s A v a C M=>a.tup_inv.casesOn λl c vs ho rs hb hl=>h φ s A l c vs ho rs hb hl C M
theorem Blt.lenTup{ds:List V}:Blt X r 0 [.tup ds] w (.int ds.length) w:=.onT λφ s A a c vs ho rs hb hl C M=>by
 have e:vs.toArray.size=ds.length:=by rw[bY,rs.len]
 refine len_tuple (items:=vs.toArray) ⟨_,ho,rfl,c,rfl⟩ (FX e hl) ?_
 rw[e];exact hH.int C _ _ _
theorem Blt.lenList{n:Nat}{ds:List V}(hn:w.get n=some (.list ds)):Blt X r 0 [.ref n] w (.int ds.length) w:=.onL hn λφ s A a c vs ho rs hl C M=>by
 have e:vs.toArray.size=ds.length:=by rw[bY,rs.len]
 refine PySem.Calls.call_len_list (items:=vs.toArray) ⟨_,ho,rfl,c,rfl⟩ (FX e hl) ?_
 rw[e];exact hH.int C _ _ _
theorem Blt.two{k:Nat}{i j:Int}{d:V}(h:∀φ s A t u,Cst X φ w s→lM r A→WP X A (call (qS k) [.int i t,.int j u]) (hH X φ w s d w) s):Blt X r k [.int i,.int j] w d w:=λφ s A vs R C M=>R.two.casesOn λv u a b=>a.int_inv.casesOn λt=>b.int_inv.casesOn λt2=>h φ s A t t2 C M
theorem Blt.mx{i j:Int}:Blt X r 2 [.int i,.int j] w (.int (max i j)) w:=.two λφ s A t u C M=>max_two_ints M.hand λh' tk hk=>by
 by_cases q:j>i
 ·rw[if_pos q,Int.max_eq_right (fN q)];exact hH.intG C _ _ _ hk
 ·rw[if_neg q,Int.max_eq_left (fG.mp q)];exact hH.intG C _ _ _ hk
theorem Blt.mn{i j:Int}:Blt X r 3 [.int i,.int j] w (.int (min i j)) w:=.two λφ s A t u C M=>min_two_ints M.hand λh' tk hk=>by
 by_cases q:j<i
 ·rw[if_pos q,Int.min_eq_right (fN q)];exact hH.intG C _ _ _ hk
 ·rw[if_neg q,Int.min_eq_left (fG.mp q)];exact hH.intG C _ _ _ hk
theorem Blt.sm{n:Nat}{ds:List V}{l:List Int}(hn:w.get n=some (.list ds))(hi:jD ds=some l):Blt X r 4 [.ref n] w (.int l.sum) w:=.onL hn λφ s A a c vs ho rs hl C M=>by
 have hI:=rs.ints _ _ hi
 obtain⟨xs,hx⟩:=hI.allInts.items
 have hl':s.heap.IsList a (intItems xs):=hx▸⟨_,ho,rfl,c,rfl⟩
 refine sum_intListG M.hand hl' λh' tk t' hk=>?_
 have e1:l=xs.toList.map (·.1):=by
  rw[←nums_intItems,←hx]
  exact(show numsOf vs.toArray.toList=l from hI.numsOf).symm
 have e2:preSum (numAt xs) xs.size=l.sum:=by
  rw[preSum_eq,eC (by simp),e1]
 rw[e2]
 exact hH.intG C _ _ _ hk
theorem Blt.srt{n:Nat}{ds:List V}{l:List Int}(hn:w.get n=some (.list ds))(hi:jD ds=some l)(h64:l.length<64):Blt X r 5 [.ref n] w (.ref w.next) (w.add (.list ((qM l).map .int))):=.onL hn λφ s A a c vs ho rs hl C M=>by
 have hI:=rs.ints _ _ hi
 refine PyProof.Rows.sorted_ints (vs:=vs) ⟨_,ho,rfl,c,rfl⟩ hI (by rw[IntsAre.length hI];exact h64) λout ns' h1 h2 h3=>?_
 obtain rfl:=EM h2 h3
 obtain⟨k,hc⟩:=sortedAll_at s.heap vs out
 exact hH.listG (n:=k) (s':={s with heap:=_}) C (vs:=out.toList) (λb o hb=>sortedAll_old hb) rfl rfl (by rw[hc]) (tU (eQ _)) (IntsAre.reps h1) (by rw[aA,(lW l).length_eq];exact aE (bW h64) (by decide))
theorem Blt.tupTup{ds:List V}:Blt X r 6 [.tup ds] w (.tup ds) w:=.onT λφ s A a c vs ho rs hb hl C M =>
 call_tuple_same (items:=vs.toArray) ⟨_,ho,rfl,c,rfl⟩ ⟨φ,.refl C,.tup ho rs hb hl⟩
theorem Blt.tupList{n:Nat}{ds:List V}(hn:w.get n=some (.list ds)):Blt X r 6 [.ref n] w (.tup ds) w:=.onL hn λφ s A a c vs ho rs hl C M =>
 call_tuple_list (items:=vs.toArray) ⟨_,ho,rfl,c,rfl⟩ (λh' hk=>hH.tupG (n:=0) (s':={s with heap:=_}) C (λb o e=>aR _ (hk b o e)) rfl rfl (aW _ rfl) (AX (hk _) (iA _)) rs hl) (kL rs.len hl)
theorem Blt.listList{n:Nat}{ds:List V}(hn:w.get n=some (.list ds)):Blt X r 7 [.ref n] w (.ref w.next) (w.add (.list ds)):=.onL hn λφ s A a c vs ho rs hl C M =>
 call_list_seq a (items:=vs.toArray) (.inl rfl) ho rfl rfl (λh' c hk hg=>hH.listG (n:=c) (s':={s with heap:=h'}) C hk rfl rfl hg (iA _) rs hl) (kL rs.len hl)
theorem Blt.listTup{ds:List V}:Blt X r 7 [.tup ds] w (.ref w.next) (w.add (.list ds)):=.onT λφ s A a c vs ho rs hb hl C M =>
 call_list_seq a (items:=vs.toArray) (.inr rfl) ho rfl rfl (λh' c hk hg=>hH.listG (n:=c) (s':={s with heap:=h'}) C hk rfl rfl hg (iA _) rs hl) (kL rs.len hl)
end
section
variable{X:Pk}{φ:List Addr}{w:W}{s:Shared}
theorem fR.updList(C:Cst X φ w s){n:Nat}{a:Addr}{c0:hW}{k:Nat}{its:Array Value}{vs:List Value}{ds:List V}(f:Array Value→Array Value)(hn:w.get n=some c0)(ha:φ[n]?=some a)(e:s.heap.get? a=some (listOf its k))(hf:f its=vs.toArray)(r:fU X φ s.heap vs ds)(hl:ds.length≤lim) :
  fR X no φ w s φ (w.set n (.list ds)) {s with heap:=s.heap.update a (Obj.mapSeq f)}:=
 fR.upd C hn ha (Heap.SameBut.update ..) λK=>.mk _ vs (by rw[←hf];exact dL _ e rfl) (r.keeps K) hl
end
noncomputable def Il(m:Nat):String:=if m=0 then "list.append" else if m=1 then "list.extend" else if m=2 then "list.pop" else "list.count"
noncomputable def Lm(X:Pk)(r n m:Nat)(ds:List V)(w:W)(d:V)(w':W):Prop:=
 ∀φ s A a vs,φ[n]?=some a→fU X φ s.heap vs ds→Cst X φ w s→lM r A→WP X A (call (.builtin (Il m)) (.ref a::vs)) (hH X φ w s d w') s
section
variable{X:Pk}{r:Nat}{w:W}
theorem Lm.append{n:Nat}{ds:List V}{d:V}(hn:w.get n=some (.list ds))(hl:ds.length<lim):Lm X r n 0 [d] w .none (w.set n (.list (ds++[d]))):=λφ s A a vs ha R C M=>(gL C hn ha).casesOn λk us ho rs ξ=>R.one.casesOn λv rv =>
 call_meets PySem.F.slot_list_append ⟨_,ho,rfl⟩ PySem.F.entry_list_append (PySem.F.args_list_append_2 _ _) (PySem.list_append a us.toArray k v (kL rs.len (bW hl)))
  ⟨ho,φ,fR.updList C (λx=>x.push v) hn ha ho (vs:=us++[v]) (by simp) (rs.app (.cons rv .nil)) (by rw[aD,bI];exact hl),.none⟩
theorem Lm.extend{n j:Nat}{ds es:List V}(hn:w.get n=some (.list ds))(hj:w.get j=some (.list es))(hl:(ds++es).length≤lim):Lm X r n 1 [.ref j] w .none (w.set n (.list (ds++es))):=λφ s A a vs ha R C M=>(gL C hn ha).casesOn λk us ho rs h5=>R.one.casesOn λv rv =>
 rv.ref_inv.casesOn λb e1=>(gL C hj e1).casesOn λk2 us2 ho2 rs2 ξ=>by
 have h4:us.toArray.size+us2.toArray.size≤sizeLine:=by rw[bY,bY,rs.len,rs2.len,←aD];exact aE hl rD
 refine call_meets PySem.F.slot_list_extend ⟨_,ho,rfl⟩ PySem.F.entry_list_extend (PySem.F.args_list_extend_2 _ _) (AutoSeq1.list_extend_list_list_0 a us.toArray k b us2.toArray k2 ?_ (kL rs.len h5) (dN h4)) ⟨ho,ho2,φ,?_,.none⟩
 ·have:Builtin.List.listTooLong (us.toArray.size+us2.toArray.size)=false:=decide_eq_false (dM.mpr h4)
  rw[this];simp
 ·exact fR.updList C (λx=>x++us2.toArray) hn ha ho (vs:=us++us2) (by simp) (rs.app rs2) hl
theorem Lm.pop{n:Nat}{ds:List V}{d:V}(hn:w.get n=some (.list ds))(hd:ds.getLast?=some d):Lm X r n 2 [] w d (w.set n (.list ds.dropLast)):=λφ s A a vs ha R C M=>(gL C hn ha).casesOn λk us ho rs hl=>by
 rw[R.nil_inv]
 have h1:=rs.len
 rw[List.getLast?_eq_getElem?] at hd
 obtain⟨v,hv,rv⟩:=rs.get hd
 refine call_meets PySem.F.slot_list_pop ⟨_,ho,rfl⟩ PySem.F.entry_list_pop (PySem.F.args_list_pop_1 _) (MeetsSeq.list_pop_last a us.toArray k v (by rw[bY,h1];simpa using hv) (kL h1 hl)) ⟨ho,?_⟩
 have T:=fR.updList C (n:=n) (vs:=us.dropLast) (ds:=ds.dropLast) (λxs=>xs.eraseIdxIfInBounds (us.toArray.size-1)) hn ha ho ?_ ?_ (by rw[List.length_dropLast];exact aE (Nat.sub_le _ _) hl)
 ·exact⟨φ,T,rv.step C T⟩
 ·apply Array.toList_inj.mp
  rw[Array.toList_eraseIdxIfInBounds]
  simp only[bY]
  exact List.eraseIdx_length_sub_one
 ·rw[List.dropLast_eq_take,List.dropLast_eq_take,h1];exact fU.take _ _ rs _
theorem Fe(i:Int){vs:List Value}{l:List Int}(h:IntsAre vs l):vs.countP (λv=>match v with | .int j _=>j==i | _=>false)=l.count i:=by
 induction h with
 |nil=>rfl
 |cons n t r ih=>rw[fL,eU,ih]
theorem Lm.count{n:Nat}{ds:List V}{l:List Int}{i:Int}(hn:w.get n=some (.list ds))(hi:jD ds=some l):Lm X r n 4 [.int i] w (.int (l.count i)) w:=λφ s A a vs ha R C M=>(gL C hn ha).casesOn λk us ho rs hl=>R.one.casesOn λv rv=>rv.int_inv.casesOn λt=>by
 have hI:=rs.ints _ _ hi
 refine call_meets PySem.F.slot_list_count ⟨_,ho,rfl⟩ PySem.F.entry_list_count (PySem.F.args_list_count_2 _ _) (PySem.SeqAt.list_countAt a us.toArray k none #[] (.int i t) (λv=>match v with | .int j _=>j==i | _=>false)) ⟨ho,?_,?_⟩
 ·intro y hy
  obtain⟨j,t',rfl⟩:=hI.all y (by simpa using hy)
  exact PySem.SeqAt.EqAt.int_int j t' i t
 ·show hH X φ w s _ w (.int ((us.toArray.toList.countP _:Nat):Int) _) _
  rw[show us.toArray.toList=us from rfl,Fe i hI]
  exact hH.int C _ _ _
theorem rO{X:Pk}{φ:List Addr}{w:W}{s:Shared}(C:Cst X φ w s){a:Addr}{n:Nat}(ha:φ[n]?=some a)(hm:(X.h0.get? sysModules).isSome=true):(a==sysModules)=false:=by
 have:=C.fresh a (aF ha)
 cases q:a==sysModules with
 |false=>rfl
 |true=>rw[eq_of_beq q] at this;rw[this] at hm;cases hm
theorem Cmp.inDict{n:Nat}{kvs:List (Int×V)}{i:Int}(hm:(X.h0.get? sysModules).isSome=true)(hn:w.get n=some (.dict kvs)):Cmp X r .In (.int i) (.ref n) w (kvs.lookup i).isSome w:=λφ s A u v a b C M=>a.int_inv.casesOn λt=>b.ref_inv.casesOn λl e1=>(pX C hn e1).casesOn λkv hd rs hl=>by
 refine wpAny_in_of (knd:=intKind P X.w) (k:=i) (intKind_is _ _ _ _) (rO C e1 hm) hd.mapOf ⟨φ,(fR.refl C).toks _,?_⟩
 rw[lE (β:=Unit),rs.isSome];exact .bool _
theorem Cmp.notInDict{n:Nat}{kvs:List (Int×V)}{i:Int}(hm:(X.h0.get? sysModules).isSome=true)(hn:w.get n=some (.dict kvs)):Cmp X r .NotIn (.int i) (.ref n) w (!(kvs.lookup i).isSome) w:=λφ s A u v a b C M=>a.int_inv.casesOn λt=>b.ref_inv.casesOn λl e1=>(pX C hn e1).casesOn λkv hd rs hl=>by
 refine wpAny_notIn_of (knd:=intKind P X.w) (k:=i) (intKind_is _ _ _ _) (rO C e1 hm) hd.mapOf ⟨φ,(fR.refl C).toks _,?_⟩
 rw[lE (β:=Unit),rs.isSome];exact .bool _
noncomputable def inV(w:W)(a b:V):Option Bool:=(Cr b).bind λn=>(w.get n).bind λc=>hW.casesOn (motive:=λξ=>Option Bool) c (inL w a) (λkvs=>(kY a).map λi=>(kvs.lookup i).isSome) λξ=>none
theorem Cmp.inOk(hm:(X.h0.get? sysModules).isSome=true){a b:V}{c:Bool}(h:inV w a b=some c):Cmp X r .In a b w c w∧Cmp X r .NotIn a b w (!c) w:=
 (aH.mp h).elim λn h=>(aH.mp h.2).elim λcl h2=>by
 rw[pG h.1]
 cases cl with
 |list ds=>exact⟨.inL h2.1 h2.2,.notInL h2.1 h2.2⟩
 |dict kvs =>
  obtain⟨i,h3,h4⟩:=bE.mp h2.2
  rw[hU h3,←h4]
  exact⟨.inDict hm h2.1,.notInDict hm h2.1⟩
 |ns=>cases h2.2
noncomputable def isV(a b:V):Option Bool:=V.casesOn (motive_1:=λξ=>Option Bool) b none (if notSet a=true then some (DL a) else none) (λy=>(Fj a).map (·==y)) (λξ=>none) (λξ=>none) (λξ=>none) (λξ=>none) λξ ξ=>none
theorem Cmp.isOk{a b:V}{c:Bool}(h:isV a b=some c):Cmp X r .Is a b w c w∧Cmp X r .IsNot a b w (!c) w:=by
 cases b with
 |none=>exact(lQ h).elim (λq=>by rw[←q.2];exact⟨.isNone q.1,.isNotNone q.1⟩) λh=>nomatch h
 |bool y=>exact(bE.mp h).elim λx q=>by rw[pY q.1,←q.2];exact⟨.isBool,.isNotBool⟩
 |_=>cases h
noncomputable def jK(op:CmpOp)(w:W)(a b:V):Option Bool:=if op=.Eq then eqV w a b else if op=.NotEq then(eqV w a b).map (!·) else if op=.In then inV w a b else if op=.NotIn then(inV w a b).map (!·) else if op=.Is then isV a b else if op=.IsNot then(isV a b).map (!·)
 else Nt a b λi j=>if op=.Lt then some (decide (i<j)) else if op=.Gt then some (decide (j<i)) else if op=.LtE then some (decide (i≤j)) else if op=.GtE then some (decide (j≤i)) else none
theorem Cmp.ok(hm:(X.h0.get? sysModules).isSome=true){op:CmpOp}{a b:V}{c:Bool}(h:jK op w a b=some c):Cmp X r op a b w c w:=
 (jP h).elim (λq=>by rw[q.1];exact .eq q.2) λh=>(jP h).elim (λq=>(bE.mp q.2).elim λx z=>by rw[q.1,←z.2];exact .ne z.1) λh =>
 (jP h).elim (λq=>by rw[q.1];exact(Cmp.inOk hm q.2).1) λh=>(jP h).elim (λq=>(bE.mp q.2).elim λx z=>by rw[q.1,←z.2];exact(Cmp.inOk hm z.1).2) λh =>
 (jP h).elim (λq=>by rw[q.1];exact(Cmp.isOk q.2).1) λh=>(jP h).elim (λq=>(bE.mp q.2).elim λx z=>by rw[q.1,←z.2];exact(Cmp.isOk z.1).2) λh =>
 by
 obtain⟨i,j,rfl,rfl,h⟩:=vE h
 exact(lQ h).elim (λq=>by rw[q.1,←q.2];exact .lt) λh=>(lQ h).elim (λq=>by rw[q.1,←q.2];exact .gt) λh=>(lQ h).elim (λq=>by rw[q.1,←q.2];exact .le) λh=>(lQ h).elim (λq=>by rw[q.1,←q.2];exact .ge) λh=>nomatch h
noncomputable def Sto(X:Pk)(r:Nat)(a i d:V)(w w':W):Prop:=
 ∀φ s A u v x,Rep X φ s.heap u a→Rep X φ s.heap v i→Rep X φ s.heap x d→Cst X φ w s→lM r A→WP X A (setItem u v x) (λξ s'=>Pq X φ w s w' s') s
theorem EU{A:Around}{s:Shared}{l:Addr}{items:Array Value}{k:Int}{t:Tok}{v:Value}{j:Nat}{Q:Unit→Shared→Prop}{n:Nat}(ho:s.heap.get? l=some (listOf items n))(hj:seqIndex? k items.size=some j)(hs:items.size<2^60)(hQ:Q () {s with heap:=s.heap.update l (Obj.mapSeq (·.setIfInBounds j v))}) :
  wpAny (model P X.w) A (setItem (.ref l) (.int k t) v) Q nor s:=by
 have hl:s.heap.IsList l items:=⟨_,ho,rfl,n,rfl⟩
 obtain⟨q1,q2⟩:=wB hj
 have r:=yS q1 q2
 have hfit:Builtin.List.listFitsIndex k=true:=by
  unfold Builtin.List.listFitsIndex
  have b:(items.size:Int)≤2^60:=dP.mpr (bW hs)
  exact bS.mpr ⟨decide_eq_true (aS (aS (by decide) (Int.neg_le_neg b)) r.1),decide_eq_true (fH r.2 (aS b (by decide)))⟩
 unfold setItem
 try with_reducible refine wpAny_holding ?_
 refine wpAny_bind (wpAny_sequenceKey hl.typeIs (by decide) ?_)
 refine wpAny_bind (wpAny_callSpecial?_slot (name:=Str.ofString "__setitem__") hl.typeIs slot_list_setitem
  (wpAny_call_entry slot_list_setitem hl.typeIs entry_list_setitem ?_ (args_list_setitem _ _ _)))
 show wpAny _ _ (Builtin.List.listSubscript? (.int k t) >>= _) _ _ s
 refine wpAny_bind (wpAny_listSubscript_int hfit ?_)
 have hx':items[j]?=some items[j]:=Array.getElem?_eq_getElem q1
 clear hfit
 cases k with
 |ofNat m =>
  have:m=j:=by
   rcases q2 with q2 | q2
   ·exact Int.ofNat.inj q2
   ·have:(0:Int)≤Int.ofNat m:=bU m
    lia
  subst this
  show wpAny _ _ ((seqItemAt l m >>= λr=>pure (r.map (m,·))) >>= _) _ _ s
  refine wpAny_bind (wpAny_bind (wpAny_seqItemAt ho rfl (wpAny_pure ?_)))
  rw[hx']
  show wpAny _ _ (setSeqItemAt l m v >>= _) _ _ s
  refine wpAny_bind (wpAny_setSeqItemAt ho rfl ?_)
  first
   |exact wpAny_bind (wpAny_pure (wpAny_pure ⟨.none,rfl,wpAny_pure hQ⟩))
   |exact wpAny_pure ⟨.none,rfl,wpAny_pure hQ⟩
 |negSucc m =>
  show wpAny _ _ ((Builtin.List.listItems (.ref l) >>= λxs=>pure ((seqIndex? (Int.negSucc m) xs.size).bind λi=>xs[i]?.map (i,·))) >>= _) _ _ s
  refine wpAny_bind (wpAny_bind ?_)
  show wpAny _ _ (seqItems? (.ref l) >>= _) _ _ s
  refine wpAny_bind (wpAny_seqItems ho rfl (wpAny_pure (wpAny_pure ?_)))
  rw[hj]
  simp only[cE,hx',eE]
  show wpAny _ _ (setSeqItemAt l j v >>= _) _ _ s
  refine wpAny_bind (wpAny_setSeqItemAt ho rfl ?_)
  first
   |exact wpAny_bind (wpAny_pure (wpAny_pure ⟨.none,rfl,wpAny_pure hQ⟩))
   |exact wpAny_pure ⟨.none,rfl,wpAny_pure hQ⟩
theorem Sto.list{n:Nat}{ds:List V}{i:Int}{d:V}{j:Nat}(hn:w.get n=some (.list ds))(hj:seqIndex? i ds.length=some j):Sto X r (.ref n) (.int i) d w (w.set n (.list (ds.set j d))):=λφ s A u v x a b c C M=>b.int_inv.casesOn λt=>a.ref_inv.casesOn λl e1=>(gL C hn e1).casesOn λk us ho rs hl=>by
 have h1:=rs.len
 refine EU ho (j:=j) (by rw[bY,h1];exact hj) (aQ (kL h1 hl) (by decide)) ⟨φ,?_⟩
 exact fR.updList C _ hn e1 ho (vs:=us.set j x) (by simp) (fU.set c _ _ rs j) (by rw[bR];exact hl)
noncomputable def mO{κ:Type}[DecidableEq κ](k:κ)(v:V):List (κ×V)→List (κ×V):=List.rec [(k,v)] λp r R=>if p.1=k then(k,v)::r else p::R
theorem EJ{i k:Int}{v x:Value}{es:List (Int×Value)}(hn:k∉es.map (·.1)):stored ((k,v)::es) i x=if k=i then(i,x)::es else(k,v)::stored es i x:=by
 unfold stored
 rw[List.any_cons]
 by_cases q:k=i
 ·subst q
  simp only[decide_true,Bool.true_or,if_true,aY]
  have:es.map (λkv=>if kv.1=k then(kv.1,x) else kv)=es:=by
   refine(fB λp hp=>?_).trans (List.map_id es)
   have:p.1≠k:=λe=>hn (bL.mpr ⟨p,hp,e⟩)
   simp[this]
  rw[this]
 ·simp only[q,decide_false,Bool.false_or,if_false,aY]
  split<;>rfl
theorem zO{X:Pk}{φ:List Addr}{h:Heap}(i:Int){x:Value}{d:V}(c:Rep X φ h x d):∀(ds:List (Int×V)) (kvs:List (Int×Value)),(kvs.map (·.1)).Nodup→Kvs X φ h kvs ds→Kvs X φ h (stored kvs i x) (mO i d ds):=
 List.rec (λkvs hn r=>by rw[show kvs=[] from r];exact .cons c .nil) λp ds ih kvs hn r=>r.cons_inv.casesOn (motive:=λkvs ξ=>(kvs.map (·.1)).Nodup→Kvs X φ h (stored kvs i x) (mO i d (p::ds))) (λq us a r hn=>a.casesOn (motive:=λq ξ=>((q::us).map (·.1)).Nodup→Kvs X φ h (stored (q::us) i x) (mO i d (p::ds))) (λv a hn=>by
  rw[aY,cZ] at hn
  rw[EJ hn.1]
  show Kvs X φ h _ (if p.1=i then(i,d)::ds else p::mO i d ds)
  by_cases q:p.1=i
  ·rw[if_pos q,if_pos q];exact .cons c r
  ·rw[if_neg q,if_neg q];exact .cons (k:=p.1) (d:=p.2) a (ih us hn.2 r)) hn) hn
theorem Sto.dict{n:Nat}{ds:List (Int×V)}{i:Int}{d:V}(hn:w.get n=some (.dict ds))(hl:ds.length<lim):Sto X r (.ref n) (.int i) d w (w.set n (.dict (mO i d ds))):=λφ s A u v x a b c C M=>b.int_inv.casesOn λt=>a.ref_inv.casesOn λl e1=>(pX C hn e1).casesOn λkv hd rs ξ=>by
 have h1:=rs.len
 have hnd:(kv.map (·.1)).Nodup:=by obtain⟨_,_,_,_,_,_,_,_,z⟩:=hd;exact z
 refine wpAny_setItem_pairs (knd:=intKind P X.w) (k:=i) (intKind_is _ _ _ _) hd (λh' hd' hs=>⟨φ,?_⟩) (by rw[h1];exact aE (bW hl) rD)
 refine(fR.upd (c:=.dict (mO i d ds)) C hn e1 hs λK=>xH.mk _ hd' (zO i (c.keeps K) _ _ hnd (rs.keeps K)) ?_).toks _
 rw[←(zO i c _ _ hnd rs).len]
 exact aE (stored_length_le kv i x) (by rw[h1];exact hl)
noncomputable def Cj(w:W)(n:Nat)(i:Int)(v:V)(c:hW):Option W:=hW.casesOn c (λds=>(seqIndex? i ds.length).map λj=>w.set n (.list (ds.set j v))) (λkvs=>if kvs.length<lim then some (w.set n (.dict (mO i v kvs))) else none) λξ=>none
noncomputable def tJ(w:W)(a i v:V):Option W:=(Cr a).bind λn=>(kY i).bind λi=>(w.get n).bind (Cj w n i v)
theorem Sto.ok{a i d:V}{w':W}(h:tJ w a i d=some w'):Sto X r a i d w w':=(aH.mp h).elim λn h=>(aH.mp h.2).elim λk h2=>(aH.mp h2.2).elim λc h3=>by
 rw[pG h.1,hU h2.1]
 cases c with
 |list ds=>exact(bE.mp h3.2).elim λj q=>by rw[←q.2];exact .list h3.1 q.1
 |dict kvs=>exact(lQ h3.2).elim (λq=>by rw[←q.2];exact .dict h3.1 q.1) λh=>nomatch h
 |ns=>cases h3.2
noncomputable def Ge(n m:Nat)(ds vs:List V)(w:W):Option (V×W):=
 if m=0∧ds.length<lim then vs.head?.bind λv=>if vs.length=1 then some (.none,w.set n (.list (ds++[v]))) else none
 else if m=1 then vs.head?.bind λv=>(iS w v).bind λes=>if vs.length=1∧(ds++es).length≤lim then some (.none,w.set n (.list (ds++es))) else none
 else if m=2 then ds.getLast?.bind λv=>if vs.isEmpty then some (v,w.set n (.list ds.dropLast)) else none
 else if m=4 then vs.head?.bind λv=>(kY v).bind λi=>(jD ds).bind λl=>if vs.length=1 then some (.int (l.count i),w) else none else none
theorem Ga{vs:List V}{v:V}(h:vs.head?=some v)(l:vs.length=1):vs=[v]:=by
 cases vs with
 |nil=>cases h
 |cons a r=>cases (Option.some.inj h);rw[dD.mp (eY.inj l)]
theorem Lm.ok{n m:Nat}{ds vs:List V}{x:V×W}(hn:w.get n=some (.list ds))(h:Ge n m ds vs w=some x):(m=0∨m=1∨m=2∨m=4)∧Lm X r n m vs w x.1 x.2:=
 (jP h).elim (λq=>(aH.mp q.2).elim λv z=>(lQ z.2).elim (λz2=>by rw[q.1.1,Ga z.1 z2.1,←z2.2];exact⟨.inl rfl,.append hn q.1.2⟩) λh=>nomatch h) λh =>
 (jP h).elim (λq=>(aH.mp q.2).elim λv z=>(aH.mp z.2).elim λes z1=>(lQ z1.2).elim (λz2=>by rw[q.1,Ga z.1 z2.1.1,←z2.2];exact⟨.inr (.inl rfl),(jI z1.1).casesOn λk e=>.extend hn e z2.1.2⟩) λh=>nomatch h) λh =>
 (jP h).elim (λq=>(aH.mp q.2).elim λv z=>(lQ z.2).elim (λz2=>by rw[q.1,cF.mp z2.1,←z2.2];exact⟨.inr (.inr (.inl rfl)),.pop hn z.1⟩) λh=>nomatch h) λh =>
 (jP h).elim (λq=>(aH.mp q.2).elim λv z=>(aH.mp z.2).elim λi z1=>(aH.mp z1.2).elim λl z3=>(lQ z3.2).elim (λz2=>by rw[q.1,Ga z.1 z2.1,hU z1.1,←z2.2];exact⟨.inr (.inr (.inr rfl)),.count hn z3.1⟩) λh=>nomatch h) λh=>nomatch h
end
theorem fR.adopt{X:Pk}{S:Addr→Prop}{φ φ1:List Addr}{w w1:W}{s s1 s2:Shared}{a:Addr}{c:hW}(C:Cst X φ w s)(T:fR X (λx=>x=a) φ w s φ1 w1 s1)(ha:s.heap.get? a=none)(hna:a∉φ1){o1:Obj}(ho:s1.heap.get? a=some o1)(hm:yJ o1)(hk:∀b,b≠a→∀o,s1.heap.get? b=some o→s2.heap.get? b=some o)(hg:s2.gens=s1.gens)(hos:s2.os=s1.os)(hc:kJ X φ1 (φ1++[a]) s1.heap s2.heap→iK X (φ1++[a]) s2.heap a c) :
  fR X S φ w s (φ1++[a]) (w1.add c) s2:=
 have K:∀φ2,φ1 <+: φ2→kJ X φ1 φ2 s1.heap s2.heap:=λφ2 p=>⟨p,λb k its e ξ=>hk b (λq=>by rw[q,ho] at e;exact hm.tup _ _ (Option.some.inj e)) _ e,λb C' dx e=>hk b (λq=>by rw[q,ho] at e;exact hm.inst _ _ (Option.some.inj e)) _ e⟩
 have hc:=hc (K _ (List.prefix_append _ _))
 have U:fR X (λx=>x=a) φ1 w1 s1 φ1 w1 s2:=fR.chg (a:=a) T.cst hk (λξ=>hc.some) (C.notBase ha) hg hos (λξ ξ=>rfl) (K _ (cA _)) rfl λn c h=>.inl ⟨h,λe=>hna (aF e)⟩
 ((T.trans U).adopt0 ha hna (C.notBase ha) hc).hide λb q=>by rw[q];exact ha
theorem KM{X:Pk}{φ φ':List Addr}{w w':W}{s s':Shared}{o:Obj}(hf:o.isFreed=false)(C:Cst X φ w s)(T:fR X no φ w {s with heap:=s.heap.push o} φ' w' s'):s.heap.objs.size∉φ':=λh =>
 C.notMem (iA _) (T.mem_back h (iB (aW _ hf)))
theorem sH{α:Type}{l:List α}{f:α→Bool}(h:FI l f=true):WV (λa=>f a=true) l:=by
 cases l with
 |nil=>cases h
 |cons a r=>rw[cF.mp (and2 h).1];exact⟨a,(and2 h).2⟩
theorem Bu{α:Type}{l:List α}{f:α→α→Bool}(h:Nn l f=true):∃a b,l=[a,b]∧f a b=true:=by
 cases l with
 |nil=>cases h
 |cons a r=>exact(sH (f:=f a) h).casesOn λb h=>⟨a,b,rfl,h⟩
theorem iZ{α:Type}{o:Option α}{f:α→Bool}(h:o.any f=true):∃a,o=some a∧f a=true:=by
 cases o with
 |none=>cases h
 |some a=>exact⟨a,rfl,h⟩
section
variable{X:Pk}{r:Nat}{ρ:List V}{w w1 w2 w3:W}
theorem Ev.dct0:Ev X r .dct0 ρ w (.ref w.next) (w.add (.dict [])):=λpy sc ns ht S env φ s A F=>(Ao (TQ ht)).casesOn λks vs p z=>by
 rw[cF.mp (and2 z).1,cF.mp (and2 z).2]
 exact wpAny_Dict_empty ⟨_,fR.new F.C {cls:=.type "dict",data:=.dict #[]} (.dict []) (xH.mk [] (Heap.DictOf.new _) .nil (cX _)),.ref (sD F.C _)⟩
theorem Ev.dct1{k v:Ex}{i:Int}{d:V}(h1:Ev X r k ρ w (.int i) w1)(h2:Ev X r v ρ w1 d w2):Ev X r (.dct1 k v) ρ w (.ref w2.next) (w2.add (.dict [(i,d)])):=λpy sc ns ht S env φ s A F=>(Ao (TP ht)).casesOn λks vs p z =>
 (sH z).casesOn λke z=>(pL (and2 z).2).casesOn λve b=>by
  obtain⟨ke,rfl,a⟩:=iZ (and2 z).1
  have C:=F.C
  have Tp:=fR.push (s:=s) C {cls:=.type "dict",data:=.dict #[]}
  refine wpAny_Dict_pairs (knd:=intKind P X.w) (pairs:=[(eval ke env,do let x ←eval ve env;standAt _;pure x)]) rfl (by simp) (by simp) ?_
  unfold evalPairs
  refine wpAny_bind (h1.use a (F.step Tp) λφ1 s1 u T1 r1 F1=>wpAny_bind (wpAny_holding (wpAny_bind (h2.use b F1 λφ2 s2 v T2 r2 F2=>wpAny_bind (wpAny_standAt (wpAny_pure (wpAny_bind (wpAny_holding ?_))))))))
  unfold evalPairs
  refine wpAny_pure (wpAny_pure ?_)
  refine r1.int_inv.casesOn λt=>?_
  have T:=T1.trans T2
  have hlast:s2.heap.get? s.heap.objs.size=some {cls:=.type "dict",data:=.dict #[]}:=T.keep _ _ (aW _ rfl) (gQ (C.notMem (iA _))) id
  refine⟨[(i,v)],⟨intKind_is _ _ _ _,rfl,trivial⟩,⟨_,#[],0,hlast,⟨rfl,rfl,rfl⟩,rfl,(by intro e he;simp at he),.nil,.nil⟩,λh' hd hs=>?_⟩
  exact⟨_,(fR.adopt (c:=.dict [(i,d)]) (s2:={s2 with heap:=h'}) (a:=s.heap.objs.size) C ((Tp.trans T).weak λξ q=>q.elim) (iA _) (KM rfl C T) hlast (nO rfl) (λb q o e=>by show h'.get? b=_;rw[hs.2 b q];exact e) rfl rfl
   λK=>xH.mk [(i,v)] hd (.cons (r2.keeps K) .nil) (by simp[lim])).toks _,.ref (sD T.cst _)⟩
end
structure Known0(X:Pk):Prop where
 mods:(X.h0.get? sysModules).isSome=true
 get:∀c,c<3→plainGet X.K (X.cls c) Str.empty=true
 has:∀c,c<3→hasDictIn X.K (X.cls c)=true
 fld:∀c,c<3→∀f,f<20→findIn X.K (.ref (X.cls c)) (gY f)=some none
 set:∀c,c<3→findIn X.K (.ref (X.cls c)) "__setattr__" = some (some (.builtin "object.__setattr__"))
 over:∀c,c<3→plainOver X.K (X.cls c)=true
theorem Kw:∀f,f<20→∀g,g<20→gY f=gY g→f=g:=by decide +kernel
structure Zt(X:Pk)(φ:List Addr)(h:Heap)(f:Nat)(es:List DictEntry)(fs:List (Nat×V)):Prop where
 val:∀d,fs.lookup f=some d→∃v,getL (gY f) es=some (some v)∧Rep X φ h v d
 has:(getL (gY f) es).isSome=true
 ref:es.any (·.refKey)=false
section
variable{X:Pk}{φ:List Addr}{h:Heap}
theorem AT(x:Str)(t:Tok):Value.isStr (.str x t) x=true:=by simp[Value.isStr]
theorem xN{f g:Nat}(hf:f<20)(hg:g<20)(q:¬g=f)(t:Tok):Value.isStr (.str (gY g) t) (gY f)=false:=by
 have:gY g≠gY f:=λe=>q (Kw g hg f hf e)
 simp[Value.isStr,this]
theorem kK.find{f:Nat}(hf:f<20):∀(fs:List (Nat×V)) (es:List DictEntry),kK X φ h es fs→Zt X φ h f es fs:=
 List.rec (λes r=>by rw[show es=[] from r];exact⟨λd e=>(nomatch e),rfl,rfl⟩) λp fs ih es r=>r.cons_inv.casesOn λe es a r=>a.casesOn λhs t v hg a=>by
  have ih:=ih es r
  have i1:=ih.val
  have i2:=ih.has
  have i3:=ih.ref
  unfold getL at i1 i2
  by_cases q:p.1=f
  ·have e2:=AT (gY p.1) t
   rw[←q]
   refine⟨λd' e=>?_,by simp[getL,List.find?_cons,e2],by rw[List.any_cons,i3];rfl⟩
   rw[show List.lookup p.1 (p::fs)=some p.2 from by rw[show p=(p.1,p.2) from rfl,dC,beq_self_eq_true]] at e
   have:d'=p.2:=(Option.some.inj e).symm
   rw[this]
   exact⟨v,by simp[getL,List.find?_cons,e2],a⟩
  ·have e2:=xN hf hg q t
   refine⟨λd' e=>?_,?_,by rw[List.any_cons,i3];rfl⟩
   ·rw[dC,show(f==p.1)=false from by simp[Ne.symm q]] at e
    obtain⟨u,h1,h2⟩:=i1 d' e
    exact⟨u,by simpa [getL,List.find?_cons,e2,DictEntry.refKey] using h1,h2⟩
   ·simpa [getL,List.find?_cons,e2,DictEntry.refKey] using i2
theorem kK.put{f:Nat}(hf:f<20)(hs:Int)(t:Tok){v:Value}{d:V}(rv:Rep X φ h v d):∀(fs:List (Nat×V)) (es:List DictEntry),kK X φ h es fs→kK X φ h (putL (gY f) hs (.str (gY f) t) v es) (mO f d fs):=
 List.rec (λes r=>by rw[show es=[] from r];exact .cons hf rv .nil) λp fs ih es r=>r.cons_inv.casesOn λe es a r=>a.casesOn λhs' t' v' hg a=>by
  show kK X φ h (putL _ _ _ _ _) (if p.1=f then(f,d)::fs else p::mO f d fs)
  unfold putL
  by_cases q:p.1=f
  ·rw[if_pos q,q,AT,if_pos rfl]
   exact .cons hf rv r
  ·rw[if_neg q,xN hf hg q,if_neg bC]
   exact .cons hg a (ih es r)
theorem kK.len:∀(fs:List (Nat×V)) (es:List DictEntry),kK X φ h es fs→es.length=fs.length:=
 List.rec (λes r=>by rw[show es=[] from r];rfl) λp fs ih es r=>r.cons_inv.casesOn λe es a r=>congrArg (· + 1) (ih es r)
theorem zX{κ:Type}[DecidableEq κ](k:κ)(v:V):∀(l:List (κ×V)),(mO k v l).length≤l.length+1:=
 List.rec (aO _) λp r ih=>by
  show(if p.1=k then(k,v)::r else p::mO k v r).length≤_
  split
  ·exact eQ _
  ·exact Nat.succ_le_succ ih
theorem AF{a:Str}{f:Nat}(h:idxOf a sK=some f):a=gY f∧f<20:=
 ⟨(yL h).symm,Nat.lt_of_lt_of_eq (aB.mp (pQ h)).1 (by decide +kernel)⟩
end
inductive Py(X:Pk)(φ:List Addr)(h:Heap)(c n:Nat)(fs:List (Nat×V)):Value→Prop
 |mk (x dx:Addr) (es:List DictEntry) (k:Nat):φ[n]?=some dx→InstAt h x (instObj (X.cls c) dx) (X.cls c) (some (dictOf es k))→kK X φ h es fs→fs.length≤100→h.get? dx=some (dictOf es k)→h.get? x=some (instObj (X.cls c) dx)→Py X φ h c n fs (.ref x)
theorem DN{X:Pk}{φ:List Addr}{w:W}{s:Shared}(C:Cst X φ w s){c n:Nat}{fs:List (Nat×V)}{v:Value}(r:Rep X φ s.heap v (.obj c n))(hn:w.get n=some (.ns fs)):Py X φ s.heap c n fs v:=
 r.obj_inv.casesOn λx dx h1 h2=>(SR C hn h2).casesOn λk es h3 h4 h5=>⟨x,dx,es,k,h2,⟨h1,rfl,rfl,h3⟩,h4,h5,h3,h1⟩
theorem Rep.handed{X:Pk}{φ h v d}(r:Rep X φ h v d)(hu:notSet d=true):handedIn v=true:=by
 cases d with
 |unset=>exact absurd hu bC
 |none=>rw[r.none_inv];rfl
 |bool b=>rw[r.bool_inv];rfl
 |int i=>exact r.int_inv.casesOn λt=>rfl
 |str i=>exact r.str_inv.casesOn (λt ξ=>rfl) λξ=>rfl
 |tup i=>exact r.tup_inv.casesOn λξ ξ ξ ξ ξ ξ ξ=>rfl
 |ref i=>exact r.ref_inv.casesOn λξ ξ=>rfl
 |obj i=>exact r.obj_inv.casesOn λξ ξ ξ ξ=>rfl
theorem Cst.K{X:Pk}{φ:List Addr}{w:W}{s:Shared}(C:Cst X φ w s):X.K.In s.heap:=X.hK.keeps C.base
noncomputable def nsW(w:W)(a:V):Option (Nat×Nat×List (Nat×V)):=(Xn a).bind λp=>if p.1<3 then((w.get p.2).bind nsC).map λfs=>(p.1,p.2,fs) else none
inductive NsW(w:W):V→Nat×Nat×List (Nat×V)→Prop | mk (c n fs):c<3→w.get n=some (.ns fs)→NsW w (.obj c n) (c,n,fs)
theorem DA{w:W}{a:V}{x}(h:nsW w a=some x):NsW w a x:=(aH.mp h).elim λp h=>(jP h.2).elim (λq=>(bE.mp q.2).elim λfs z=>(aH.mp z.1).elim λc y=>by
 rw[NC h.1,←z.2];exact⟨_,_,_,q.1,by rw[y.1,RM y.2]⟩) λh=>nomatch h
noncomputable def Gn(w:W)(a:V)(f:Nat):Option V:=(nsW w a).bind λx=>(x.2.2.lookup f).bind λd=>if notSet d=true then some d else none
noncomputable def Qz(w:W)(a:V)(f:Nat)(v:V):Option W:=(nsW w a).bind λx=>if x.2.2.length<100 then some (w.set x.2.1 (.ns (mO f v x.2.2))) else none
section
variable{X:Pk}{r:Nat}{ρ:List V}{w w1 w2 w3:W}
theorem Ev.attr(Kn:Known0 X){a:Ex}{f:Nat}{x d:V}(h1:Ev X r a ρ w x w1)(h:Gn w1 x f=some d):Ev X r (.attr a f) ρ w d w1:=λpy sc ns ht S env φ s A F=>(kZ (TT ht)).casesOn λv at_ p z=>by
 obtain⟨rfl,hf2⟩:=AF (eq_of_beq (and2 (and2 z).2).2)
 have y:Tr sc ns v a:=(and2 (and2 z).2).1
 rw[arm_eval_Attribute,y.base (and2 z).1]
 refine wpAny_bind (h1.use y F λφ1 s1 u T1 r1 F1=>?_)
 obtain⟨⟨c,n,fs⟩,h2,h⟩:=aH.mp h
 obtain⟨d',h3,h⟩:=aH.mp h
 refine(lQ h).elim (λq=>?_) λh=>nomatch h
 rw[q.2] at h3
 have q1:=q.1
 rw[q.2] at q1
 cases DA h2 with
 |mk _ _ _ hc hn =>
 refine(DN F1.C r1 hn).casesOn λx dx es k hdx I Fl hz ho ξ=>?_
 obtain⟨v,e1,e2⟩:=(kK.find hf2 _ _ Fl).val d h3
 refine wpAny_bind (wpAny_standAt (wpAny_bind (wpAny_holding ?_)))
 exact get_value F1.C.K I (plainGet_of (Kn.get c hc)).1 (findObj_own (Kn.has c hc) (Kn.fld c hc f hf2) rfl e1) (e2.handed q1) (wpAny_bind (wpAny_letTemporaryGo (wpAny_pure ⟨φ1,T1.toks _,e2⟩)))
theorem RG{A:Around}{s:Shared}{x C dx:Addr}{name:Str}{tk:Tok}{v:Value}{es:List DictEntry}{n:Nat}{R:Result→Shared→Prop}(hK:X.K.In s.heap)(I:InstAt s.heap x (instObj C dx) C (some (dictOf es n)))(hp:plainOver X.K C=true)(ht:takerIn X.K C name=some none)(hh:hasDictIn X.K C=true)(hl:es.any (·.refKey)=false)(hz:(putL name (PyData.keyHash X.w.params name) (.str name s.toks) v es).length≤1000)(h:R (.ok (.ret .none)) {s with heap:=s.heap.update dx (Obj.putName name (PyData.keyHash X.w.params name) (.str name s.toks) v),toks:=s.toks+1}) :
  codeAny (model P X.w) A (.call (.builtin "object.__setattr__") ⟨[.ref x,.str name tk,v],[]⟩) R s:=by
 refine osa_open hK I hp ht λb=>?_
 obtain⟨cd,hc,hd'⟩:=any_some hh
 obtain⟨hx,hcl,hn,D⟩:=I
 dsimp only at D
 refine wpAny_bind (wpAny_pure (wpAny_bind (wpAny_bind (wpAny_loadPart hx (wpAny_bind ((looks_clsIn hK hc).here ?_))))))
 rw[hd']
 refine wpAny_pure (a:=some dx) (wpAny_bind (wpAny_pure (wpAny_bind ?_)))
 unfold nsSet
 refine wpAny_bind (wpAny_bind (wpAny_askSetting (wpAny_pure (wpAny_bind (wpAny_mkText (wpAny_bind (wpAny_loadPart D ?_)))))))
 dsimp only
 have c:(!(es.toArray).any (·.key.isStr name)&&(es.toArray).any (·.refKey))=false:=by
  rw[show(es.toArray).any (·.refKey)=es.any (·.refKey) from(Array.any_toList ..).symm,hl,Bool.and_false]
 rw[aRefKeyMayBeTheName_at,c]
 refine wpAny_updatePart D ?_
 have D':(s.heap.update dx (Obj.putName name (PyData.keyHash X.w.params name) (.str name s.toks) v)).get? dx=some (dictOf (putL name (PyData.keyHash X.w.params name) (.str name s.toks) v es) (putN name es n)):=by
  rw[dL _ D (by rw[putName_dict];rfl),putName_dict]
 refine wpAny_bind (wpAny_lookBehind D' (pastItsLine_dict (by rw[bY,sizeLine_eq];lia)) ?_)
 exact wpAny_pure h
theorem EV{A:Around}{s:Shared}{x C dx:Addr}{name:Str}{v:Value}{es:List DictEntry}{n:Nat}{Q:Unit→Shared→Prop}(hK:X.K.In s.heap)(I:InstAt s.heap x (instObj C dx) C (some (dictOf es n)))(hs:findIn X.K (.ref C) "__setattr__" = some (some (.builtin "object.__setattr__")))(hp:plainOver X.K C=true)(ht:takerIn X.K C name=some none)(hh:hasDictIn X.K C=true)(hl:es.any (·.refKey)=false)(hz:(putL name (PyData.keyHash X.w.params name) (.str name (s.toks+1)) v es).length≤1000)(h:Q () {s with heap:=s.heap.update dx (Obj.putName name (PyData.keyHash X.w.params name) (.str name (s.toks+1)) v),toks:=s.toks+2}) :
  wpAny (model P X.w) A (setAttr (.ref x) name v) Q nor s:=
 set_plain hK I hs (RG (s:={s with toks:=s.toks+1}) hK I hp ht hh hl hz h)
noncomputable def Put(X:Pk)(r:Nat)(a:V)(f:Nat)(d:V)(w w':W):Prop:=
 ∀φ s A u x,f<20→Rep X φ s.heap u a→Rep X φ s.heap x d→Cst X φ w s→lM r A→WP X A (setAttr u (gY f) x) (λξ s'=>Pq X φ w s w' s') s
theorem Put.ok(Kn:Known0 X){a d:V}{f:Nat}(h:Qz w a f d=some w1):Put X r a f d w w1:=λφ s A u x hf ra rx C M=>by
 obtain⟨⟨c,n,fs⟩,h2,h⟩:=aH.mp h
 refine(lQ h).elim (λq=>?_) λh=>nomatch h
 rw[←q.2]
 cases DA h2 with
 |mk _ _ _ hc hn =>
 refine(DN C ra hn).casesOn λx' dx es k hdx I F hz ho ξ=>?_
 have hp:=λt=>(kK.put hf (PyData.keyHash X.w.params (gY f)) t rx _ _ F).len
 have hl:(mO f d fs).length≤100:=aE (zX f d fs) q.1
 refine EV C.K I (Kn.set c hc) (Kn.over c hc) (by unfold takerIn;rw[Kn.fld c hc f hf];rfl) (Kn.has c hc) (kK.find hf _ _ F).ref (by rw[hp];exact aE hl (by decide)) ⟨φ,?_⟩
 exact(fR.upd (c:=.ns (mO f d fs)) C hn hdx (Heap.SameBut.update ..) λK=>Pt.mk _ _ ((dL _ ho (by rw[putName_dict];rfl)).trans (by rw[putName_dict])) (kK.put hf _ _ (rx.keeps K) _ _ (F.keeps K)) hl).toks _
theorem Be{A:Around}{s s2:Shared}{φ φ2:List Addr}{n:Nat}{ds es:List V}{l:Addr}{lo hi:Option Int}{vl vu:Value}{value:Expr}{lower upper:Option Expr}{pos:Pos}(T:fR X no φ w s φ2 w2 s2)(hn:w2.get n=some (.list ds))(hl:φ2[n]?=some l)(pl:IsPart vl lo)(pu:IsPart vu hi)(he:∀us:List Value,us.length=ds.length→∃us',slicePick us.toArray lo hi none=us'.toArray∧(∀h φ',fU X φ' h us ds→fU X φ' h us' es))(hz:es.length≤ds.length) :
  WP X A (subscriptTail value (.Slice lower upper none pos) (.ref l) (.ref s2.heap.objs.size)) (hH X φ w s (.ref w2.next) (w2.add (.list es))) {s2 with heap:=s2.heap.push {cls:=.type "slice",data:=.fields #[vl,vu,.none]}}:=(gL T.cst hn hl).casesOn λc us ho rs hlen=>by
 have T3:=fR.push T.cst {cls:=.type "slice",data:=.fields #[vl,vu,.none]}
 obtain⟨us',e1,e2⟩:=he us rs.len
 have ho3:=aR {cls:=.type "slice",data:=.fields #[vl,vu,.none]} ho
 refine tail_any (T:="list") (ops:=[.ref s2.heap.objs.size,.ref l]) ⟨_,ho3,rfl⟩ PySem.F.slot_list_getitem.lookup ?_ rfl
 refine wpAny_getItem_list_slice (items:=us.toArray) ⟨_,ho3,rfl,c,rfl⟩ (Heap.IsSliceOf.new ..) pl pu .none (by simp) ?_ (kL rs.len hlen)
 rw[e1]
 exact(hH.newList T3.cst (e2 _ _ (rs.step T.cst T3)) (aE hz hlen) rfl).after (T.trans T3)
theorem IH{sc:Scope}{ns:List Str}{i:Expr}{b:KE}(h:(An i λlo hi st ξ=>lo.isNone&&(st.isNone&&hi.any (b sc ns)))=true):∃e p,i=.Slice none (some e) none p∧b sc ns e=true:=(Am h).casesOn λlo hi st p z=>by
 obtain⟨e,rfl,h⟩:=iZ (and2 (and2 z).2).2
 exact⟨e,p,by rw[cM.mp (and2 z).1,cM.mp (and2 (and2 z).2).1],h⟩
theorem MW{sc:Scope}{ns:List Str}{i:Expr}{b:KE}(h:(An i λlo hi st ξ=>hi.isNone&&(st.isNone&&lo.any (b sc ns)))=true):∃e p,i=.Slice (some e) none none p∧b sc ns e=true:=(Am h).casesOn λlo hi st p z=>by
 obtain⟨e,rfl,h⟩:=iZ (and2 (and2 z).2).2
 exact⟨e,p,by rw[cM.mp (and2 z).1,cM.mp (and2 (and2 z).2).1],h⟩
theorem Ev.sto{a i:Ex}{x:V}{ds:List V}{k:Int}(h1:Ev X r a ρ w x w1)(h2:Ev X r i ρ w1 (.int k) w2)(hn:Jb w2 ds x)(hk:0≤k):Ev X r (.sto a i) ρ w (.ref w2.next) (w2.add (.list (ds.take k.toNat))):=λpy sc ns ht S env φ s A F=>(jQ (VS ht)).casesOn λv i p z=>by
 obtain⟨e,q,rfl,y⟩:=IH (and2 z).2
 obtain⟨m,rfl⟩:=Int.eq_ofNat_of_zero_le hk
 refine Subscript_ (h1.use (and2 z).1 F λφ1 s1 u T1 r1 F1=>wpAny_Slice (wpAny_pure (h2.use y F1 λφ2 s2 v T2 r2 F2=>?_)))
 cases hn with
 |mk n hn =>
 refine(r1.step F1.C T2).ref_inv.casesOn λl e1=>r2.int_inv.casesOn λt=>wpAny_pure (Be (T1.trans T2) hn e1 .none (.int _ _) (λus ξ=>⟨us.take m,zR _ _,λh φ' r=>fU.take _ _ r m⟩) ?_)
 rw[cS];exact eI _ _
theorem Ev.stoG{a i:Ex}{k:Int}(h1:Ev X r a ρ w (.str 6) w1)(h2:Ev X r i ρ w1 (.int k) w2)(hk:0≤k):Ev X r (.sto a i) ρ w (.ref w2.next) (w2.add (.list ((X.gis.map V.int).take k.toNat))):=λpy sc ns ht S env φ s A F=>(jQ (VS ht)).casesOn λv i p z=>by
 obtain⟨e,q,rfl,y⟩:=IH (and2 z).2
 obtain⟨m,rfl⟩:=Int.eq_ofNat_of_zero_le hk
 refine Subscript_ (h1.use (and2 z).1 F λφ1 s1 u T1 r1 F1=>wpAny_Slice (wpAny_pure (h2.use y F1 λφ2 s2 v T2 r2 F2=>?_)))
 refine(r1.step F1.C T2).str_inv.casesOn (λt q=>absurd rfl q) λξ=>r2.int_inv.casesOn λt=>wpAny_pure ?_
 obtain⟨us,⟨ob,g1,c1,n,d1⟩,g2⟩:=X.gat
 have ho:=F2.C.base _ _ g1
 have hl:us.length=X.gis.length:=g2.length
 have T3:=fR.push F2.C {cls:=.type "slice",data:=.fields #[.none,.int m t,.none]}
 have ho3:=aR {cls:=.type "slice",data:=.fields #[.none,.int m t,.none]} ho
 refine tail_any (T:="list") (ops:=[.ref s2.heap.objs.size,.ref X.gl]) ⟨_,ho3,c1⟩ PySem.F.slot_list_getitem.lookup ?_ rfl
 refine wpAny_getItem_list_slice (items:=us.toArray) ⟨_,ho3,c1,n,d1⟩ (Heap.IsSliceOf.new ..) .none (.int _ _) .none (by simp) ?_ (kL hl X.glen)
 rw[zR]
 refine(hH.newList T3.cst (fU.take _ _ (IntsAre.reps g2) m) ?_ rfl).after ((T1.trans T2).trans T3)
 rw[cS,aA]
 exact aE (eI _ _) X.glen
theorem Ev.sfrom{a i:Ex}{x:V}{ds:List V}{k:Int}(h1:Ev X r a ρ w x w1)(h2:Ev X r i ρ w1 (.int k) w2)(hn:Jb w2 ds x)(hk:0≤k)(hk2:k≤ds.length):Ev X r (.sfrom a i) ρ w (.ref w2.next) (w2.add (.list (ds.drop k.toNat))):=λpy sc ns ht S env φ s A F=>(jQ (Nw ht)).casesOn λv i p z=>by
 obtain⟨e,q,rfl,y⟩:=MW (and2 z).2
 obtain⟨m,rfl⟩:=Int.eq_ofNat_of_zero_le hk
 refine Subscript_ (h1.use (and2 z).1 F λφ1 s1 u T1 r1 F1=>wpAny_Slice (h2.use y F1 λφ2 s2 v T2 r2 F2=>?_))
 cases hn with
 |mk n hn =>
 refine(r1.step F1.C T2).ref_inv.casesOn λl e1=>r2.int_inv.casesOn λt=>wpAny_pure (wpAny_pure (Be (T1.trans T2) hn e1 (.int _ _) .none (λus hus=>⟨us.drop m,GM _ _ (by rw[hus];exact dP.mp hk2),λh φ' r=>fU.drop _ _ r m⟩) ?_))
 rw[List.length_drop];exact Nat.sub_le _ _
end
theorem iY{x:Str}:∀{l:List Str} {i:Nat},gK x l=some i→l[i]?=some x
 |y::ys,i,h=>by
  rw[kD] at h
  cases hj:gK x ys with
  |some j=>rw[hj] at h;rw[←Option.some.inj h];exact(show ys[j]?=some x from iY hj)
  |none =>
   rw[hj] at h
   replace h:(if(y==x)=true then some 0 else none)=some i:=h
   by_cases q:(y==x)=true
   ·rw[if_pos q] at h;rw[←Option.some.inj h,eq_of_beq q];rfl
   ·rw[if_neg q] at h;exact nomatch h
 |[],i,h=>nomatch (show(none:Option Nat)=some i from h)
theorem PC(f:(Str→Option Value)→Str→Value→Str→Option Value)(hf:∀m n v x,x≠n→f m n v x=m x){B:List (Str×Value)→(Str→Option Value)→Str→Option Value}(h0:∀m,B [] m=m)(h1:∀n v r m,B ((n,v)::r) m=B r (f m n v)) :
  ∀(bs:List (Str×Value)) (m:Str→Option Value) (x:Str),x∉bs.map (·.1)→B bs m x=m x:=
 List.rec (λm x ξ=>by rw[h0]) λp r ih m x h=>by
  rw[aY,bJ,not_or] at h
  rw[show B (p::r) m=_ from h1 p.1 p.2 r m,ih _ x h.2,hf _ _ _ _ h.1]
theorem Fk(f:(Str→Option Value)→Str→Value→Str→Option Value)(hf:∀m n v x,x≠n→f m n v x=m x){B:List (Str×Value)→(Str→Option Value)→Str→Option Value}(h0:∀m,B [] m=m)(h1:∀n v r m,B ((n,v)::r) m=B r (f m n v)){x:Str}{v:Value}(hx:∀m,f m x v x=some v):∀(bs:List (Str×Value)) (m:Str→Option Value),(bs.map (·.1)).Nodup→(x,v)∈bs→B bs m x=some v:=
 List.rec (λm ξ h=>nomatch h) λp r ih m hn h=>by
  rw[aY,cZ] at hn
  rw[show B (p::r) m=_ from h1 p.1 p.2 r m]
  rcases bJ.mp h with e | h
  ·rw[←e] at hn ⊢
   rw[PC f hf h0 h1 r _ x hn.1,hx]
  ·exact ih _ hn.2 h
noncomputable def MP(k:Str→Option NameKind)(m:Str→Option Value)(n:Str)(v:Value):Str→Option Value:=if k n=some .local then λx=>if x=n then some v else m x else m
noncomputable def MQ(k:Str→Option NameKind)(m:Str→Option Value)(n:Str)(v:Value):Str→Option Value:=if k n=some .local then m else λx=>if x=n then some v else m x
theorem Jr{k}(m:Str→Option Value)(n:Str)(v:Value)(x:Str)(h:x≠n):MP k m n v x=m x:=by
 show(if k n=some .local then λx=>if x=n then some v else m x else m) x=m x
 by_cases q:k n=some .local
 ·rw[if_pos q];exact if_neg h
 ·rw[if_neg q]
theorem Js{k}(m:Str→Option Value)(n:Str)(v:Value)(x:Str)(h:x≠n):MQ k m n v x=m x:=by
 show(if k n=some .local then m else λx=>if x=n then some v else m x) x=m x
 by_cases q:k n=some .local
 ·rw[if_pos q]
 ·rw[if_neg q];exact if_neg h
theorem LI{k:Str→Option NameKind}{x:Str}{v:Value}(hk:k x=some .local)(bs:List (Str×Value))(m:Str→Option Value)(hn:(bs.map (·.1)).Nodup)(h:(x,v)∈bs):bindL k bs m x=some v:=
 Fk (MP k) Jr (B:=bindL k) (λξ=>rfl) (λξ ξ ξ ξ=>rfl) (λm=>by unfold MP;rw[if_pos hk,if_pos rfl]) bs m hn h
theorem LJ{k:Str→Option NameKind}{x:Str}{v:Value}(hk:k x=some .cell)(bs:List (Str×Value))(m:Str→Option Value)(hn:(bs.map (·.1)).Nodup)(h:(x,v)∈bs):bindC k bs m x=some v:=
 Fk (MQ k) Js (B:=bindC k) (λξ=>rfl) (λξ ξ ξ ξ=>rfl) (λm=>by unfold MQ;rw[if_neg (by rw[hk];decide),if_pos rfl]) bs m hn h
theorem CV{ns:List Str}{vs:List Value}{i:Nat}{x:Str}{v:Value}(h1:ns[i]?=some x)(h2:vs[i]?=some v):(x,v)∈ns.zip vs:=
 aF (i:=i) (by rw[List.getElem?_zip_eq_some];exact⟨h1,h2⟩)
theorem qU:∀(ns:List Str) (vs:List Value),ns.length≤vs.length→(ns.zip vs).map (·.1)=ns:=
 List.rec (λξ ξ=>rfl) λn ns ih vs h=>by
  cases vs with
  |nil=>exact absurd h (Nat.not_succ_le_zero _)
  |cons v vs=>rw[List.zip_cons_cons,aY,ih vs (Nat.le_of_succ_le_succ h)]
structure Fn where
 np:Nat
 nv:Nat
 sup:Option Exs
 body:Bk
noncomputable def chF(F:Fn):KB:=Option.rec (chB F.body) (λes=>iM (λsc ns py=>JV py λx ξ=>VO 5 (wR es) sc ns x) (chB F.body)) F.sup
noncomputable def gF(sc:Scope):List Str:=(sc.names.filter λp=>decide (p.2=.local)||decide (p.2=.cell)).map (·.1)
structure oJ(X:Pk)(f:Addr)(F:Fn)(fd:FuncData)(body:List Stmt):Prop where
 at_:∃o,X.K.lookup f=some o∧o.data=.func fd
 bd:fd.body=.stmts body
 code:codeIn X.K fd.code fd.qualname=true
 glob:fd.globals=mainGlobals
 blt:fd.builtins=builtinsNs
 kind:fd.scope.kind=.function
 co:fd.scope.isCoroutine=false
 gen:fd.scope.isGenerator=false
 tr:chF F fd.scope (gF fd.scope) body=true
 nv:(gF fd.scope).length=F.nv
 np:F.np≤F.nv
 nd:(gF fd.scope).Nodup
 bind:∀vals:List Value,vals.length=F.np→bindArgs fd ⟨vals,[]⟩=pure (((gF fd.scope).take F.np).zip vals)
 names:∀p∈fd.scope.names,fd.scope.names.lookup p.1=some p.2
inductive Out where | go | ret (v:V)
inductive Dq(R:Value→Prop):Flow→Prop | mk (v:Value):R v→Dq R (.ret v)
noncomputable def lO(X:Pk)(φ:List Addr)(h:Heap)(f:Flow)(o:Out):Prop:=Out.casesOn o (f=.next) λd=>Dq (λv=>Rep X φ h v d) f
theorem lO.go{X φ h f}(r:lO X φ h f .go):f=.next:=r
theorem lO.ret{X φ h f d}(r:lO X φ h f (.ret d)):Dq (λv=>Rep X φ h v d) f:=r
theorem lO.imp{X X':Pk}{φ φ' h h'}(k:∀v d,Rep X φ h v d→Rep X' φ' h' v d){f:Flow}{o:Out}(r:lO X φ h f o):lO X' φ' h' f o:=by
 cases o with
 |go=>exact r
 |ret d=>exact r.ret.casesOn λv q=>Dq.mk v (k _ _ q)
inductive StP(X:Pk)(S:Addr→Prop)(env:Env)(sc:Scope)(ns:List Str)(φ:List Addr)(w:W)(s:Shared)(ρ':List V)(o:Out)(w':W)(f:Flow)(s':Shared):Prop
 |mk (φ':List Addr):fR X S φ w s φ' w' s'→lO X φ' s'.heap f o→fW X S φ' env sc ns ρ' s'.heap→StP X S env sc ns φ w s ρ' o w' f s'
noncomputable def St1(X:Pk)(r:Nat)(t:St)(ρ:List V)(w:W)(ρ':List V)(o:Out)(w':W):Prop:=
 ∀py sc ns,TrS sc ns py t→∀S env φ s A,Fr X r S φ env sc ns ρ w s A→WP X A (exec py env) (StP X S env sc ns φ w s ρ' o w') s
noncomputable def Sts(X:Pk)(r:Nat)(ts:Bk)(ρ:List V)(w:W)(ρ':List V)(o:Out)(w':W):Prop:=
 ∀pys sc ns,TrB sc ns pys ts→∀S env φ s A,Fr X r S φ env sc ns ρ w s A→WP X A (execs pys env) (StP X S env sc ns φ w s ρ' o w') s
noncomputable def Zh(X:Pk)(φ:List Addr)(w:W)(s:Shared)(d:V)(w':W)(res:Result)(s':Shared):Prop:=match res with | .ok (.ret v)=>hH X φ w s d w' v s' | _=>False
noncomputable def oL(X:Pk)(r:Nat)(f:Value)(ds:List V)(w:W)(d:V)(w':W):Prop:=
 ∀φ s A vs,fU X φ s.heap vs ds→Cst X φ w s→lM r A→codeAny (model P X.w) A (.call f ⟨vs,[]⟩) (Zh X φ w s d w') s
section
variable{X:Pk}{r:Nat}{ρ ρ1:List V}{w w1 w2 w3:W}{S:Addr→Prop}{φ:List Addr}{env:Env}{sc:Scope}{ns:List Str}{s:Shared}{A:Around}
theorem Fr.own{φ':List Addr}{w':W}{s':Shared}(F:Fr X r S φ env sc ns ρ w s A)(T:fR X S φ w s φ' w' s')(R:fW X S φ' env sc ns ρ1 s'.heap):Fr X r S φ' env sc ns ρ1 w' s' A:=⟨R,T.cst,F.M⟩
theorem St1.use{e:St}{o:Out}(h:St1 X r e ρ w ρ1 o w1){py:Stmt}(ht:TrS sc ns py e)(F:Fr X r S φ env sc ns ρ w s A){Q:Flow→Shared→Prop}(k:∀φ1 s1 f,fR X S φ w s φ1 w1 s1→lO X φ1 s1.heap f o→Fr X r S φ1 env sc ns ρ1 w1 s1 A→Q f s1):WP X A (exec py env) Q s:=
 (h _ _ _ ht _ _ _ _ _ F).mono λv s1 x=>x.casesOn λφ1 T r R=>k φ1 s1 v T r (F.own T R)
theorem Sts.use{e:Bk}{o:Out}(h:Sts X r e ρ w ρ1 o w1){py:List Stmt}(ht:TrB sc ns py e)(F:Fr X r S φ env sc ns ρ w s A){Q:Flow→Shared→Prop}(k:∀φ1 s1 f,fR X S φ w s φ1 w1 s1→lO X φ1 s1.heap f o→Fr X r S φ1 env sc ns ρ1 w1 s1 A→Q f s1):WP X A (execs py env) Q s:=
 (h _ _ _ ht _ _ _ _ _ F).mono λv s1 x=>x.casesOn λφ1 T r R=>k φ1 s1 v T r (F.own T R)
theorem oL.call{f:Value}{ds:List V}{d:V}(h:oL X r f ds w d w1):Fz X r f ds w d w1:=λφ s A vs R C M =>
 wpAny_call (codeAny_mono (h φ s A vs R C M) λres s' z=>by rcases res with e | (_ | _ | _ | v)<;>first | exact z | exact z.elim)
end
theorem oX{sc:Scope}{x:Str}(h:x∈gF sc)(hn:∀p∈sc.names,sc.names.lookup p.1=some p.2):sc.names.lookup x=some .local∨sc.names.lookup x=some .cell:=by
 obtain⟨p,hp,rfl⟩:=bL.mp h
 obtain⟨h1,h2⟩:=bX.mp hp
 rw[hn p h1]
 exact(cR.mp h2).imp (λq=>congrArg some (of_decide_eq_true q)) λq=>congrArg some (of_decide_eq_true q)
theorem lM.deeper{r:Nat}{A:Around}(M:lM (r+1) A)(env:Env):lM r (A.deeper env):=
 ⟨M.hand,by have:=M.depth;show A.depth+1+3*r≤700;lia,by have:=M.units;show A.units+3+30*r≤9000;lia⟩
theorem lM.limit{r:Nat}{A:Around}(M:lM r A):A.depth<recursionLimit:=aQ (aE (dG _ _) M.depth) (by decide)
theorem oC{cs:List (Str×Addr)}(hp:cs.Pairwise λx y=>x.2≠y.2){x y:Str}{c:Addr}(h1:cs.lookup x=some c)(h2:cs.lookup y=some c):x=y:=
 name_of_addr hp (mem_of_lookup h1) (mem_of_lookup h2)
section
variable{X:Pk}{φ:List Addr}{w:W}{s s1:Shared}{f:Addr}{F:Fn}{fd:FuncData}{body:List Stmt}
theorem oJ.slot(ok:oJ X f F fd body){h:Heap}{vs:List Value}{ds:List V}(R:fU X φ h vs ds)(hl:ds.length=F.np){x:Str}{i:Nat}{d:V}(h1:gK x (gF fd.scope)=some i)(h2:(ds++aV (F.nv-F.np) V.unset)[i]?=some d) :
  d=.unset∨∃v,(x,v)∈((gF fd.scope).take F.np).zip vs∧Rep X φ h v d:=by
 by_cases q:i<ds.length
 ·rw[aJ q] at h2
  obtain⟨v,hv,rv⟩:=R.get h2
  refine .inr ⟨v,CV (i:=i) ?_ hv,rv⟩
  rw[List.getElem?_take_of_lt (hl▸q)]
  exact iY h1
 ·rw[bP (dM.mp q),List.getElem?_replicate] at h2
  split at h2
  ·exact .inl (Option.some.inj h2).symm
  ·cases h2
theorem oJ.keys(ok:oJ X f F fd body){vs:List Value}(hl:vs.length=F.np):(((gF fd.scope).take F.np).zip vs).map (·.1)=(gF fd.scope).take F.np:=qU _ _ (by rw[cS,hl];exact Nat.min_le_left _ _)
theorem oJ.keysNd(ok:oJ X f F fd body){vs:List Value}(hl:vs.length=F.np):((((gF fd.scope).take F.np).zip vs).map (·.1)).Nodup:=by rw[ok.keys hl];exact ok.nd.sublist (List.take_sublist _ _)
theorem oJ.size(ok:oJ X f F fd body){ds:List V}(hl:ds.length=F.np):(ds++aV (F.nv-F.np) V.unset).length=(gF fd.scope).length:=by
 rw[aD,dK,ok.nv,hl];exact Nat.add_sub_cancel' ok.np
theorem fW.enter(ok:oJ X f F fd body)(C:Cst X φ w s){vs:List Value}{ds:List V}(R:fU X φ s.heap vs ds)(hl:ds.length=F.np)(hfree:∀p∈fd.scope.names,p.2≠.free){env:Env}(he:env=callEnvC fd s.heap.objs.size f)(I:InCallC s env.locals (bindL env.kindOf (((gF fd.scope).take F.np).zip vs) λξ=>none) env.cells (bindC env.kindOf (((gF fd.scope).take F.np).zip vs) λξ=>none) s1) :
  fW X (λa=>a=env.locals∨∃n,env.cells.lookup n=some a) φ env fd.scope (gF fd.scope) (ds++aV (F.nv-F.np) .unset) s1.heap:=by
 have hvl:vs.length=F.np:=R.len.trans hl
 have hsc:env.scope=fd.scope:=by rw[he];rfl
 have hkind:∀x,env.kindOf x=fd.scope.names.lookup x:=λx=>by rw[he];rfl
 have hnd:=ok.keysNd hvl
 have kp:=I.toInCall.keep
 have R1:fU X φ s1.heap vs ds:=R.kept (cA _) kp
 have hge:∀a,(a=env.locals∨∃n,env.cells.lookup n=some a)→s.heap.get? a=none:=λa ha=>tU (by
  rcases ha with rfl | ⟨n,hn⟩
  ·exact I.toInCall.fresh
  ·exact bW (aQ I.toInCall.fresh (I.above n a (mem_of_lookup hn))))
 refine⟨by rw[hsc];exact ok.kind,by rw[he];exact ok.glob,by rw[he];exact ok.blt,λx h=>by rw[hkind,h],λx h=>by rw[hkind,h],λx h=>.inr (by rw[hkind,h]),λx h=>by rw[hkind,h],ok.size hl,⟨_,I.toInCall.ns,λx i d ξ h1 h2 h3=>?_⟩,λx hx=>?_,λx y c h1 h2=>oC I.apart h1 h2,.inl rfl,λa ha=>?_⟩
 ·rcases ok.slot R1 hl h2 h3 with rfl | ⟨v,hm,rv⟩
  ·exact .unset _
  ·rw[LI (by rw[hkind,h1]) _ _ hnd hm];exact .mk _ _ rv
 ·rcases hx with hx | hx
  ·have hs:(env.cells.lookup x).isSome=true:=by rw[he];exact cellsFrom_some _ _ _ (.inl hx)
   obtain⟨c,hc⟩:=cW.mp hs
   refine⟨c,_,hc,I.cell x c hc,λξ=>.inr ⟨x,hc⟩,λi d h1 h2=>?_⟩
   rcases ok.slot R1 hl h1 h2 with rfl | ⟨v,hm,rv⟩
   ·exact .unset _
   ·rw[LJ (by rw[hkind,hx]) _ _ hnd hm];exact .mk _ _ rv
  ·exact(hfree _ (mem_of_lookup hx) rfl).elim
 ·have q:∃o,s1.heap.get? a=some o∧yJ o:=by
   rcases ha with rfl | ⟨n,hn⟩
   ·obtain⟨o,es,ep,e,hd,_⟩:=I.toInCall.ns;exact⟨o,e,nO hd⟩
   ·obtain⟨o,e,hd⟩:=I.cell n a hn;exact⟨o,e,wH hd⟩
  exact q.elim λo q=>⟨o,C.notMem (hge a ha),C.notBase (hge a ha),q.1,q.2⟩
theorem Nm(ok:oJ X f F fd body)(n:Nat)(vs:List Value) :
  ∀x∈((gF fd.scope).take F.np).zip vs,fd.scope.names.lookup x.1=some .local∨(fd.scope.names.lookup x.1=some .cell∧((cellsFrom n fd.scope.names []).lookup x.1).isSome=true):=λx hx =>
 (oX ((List.take_sublist _ _).mem (List.of_mem_zip hx).1) ok.names).imp id λq=>⟨q,cellsFrom_some _ _ _ (.inl q)⟩
theorem Cst.noLimit(C:Cst X φ w s):s.heap.NoLimit:=X.nolimit.keeps C.base
noncomputable def KO(o:Out):V:=Out.casesOn o .none λd=>d
noncomputable def ZD(f:Flow):Value:=match f with
 |.ret v=>v
 |_=>.none
theorem Ea{S:Addr→Prop}{φ':List Addr}{w':W}{s2:Shared}{o:Out}{fl:Flow}(T:fR X no φ w s φ' w' s2)(hO:lO X φ' s2.heap fl o):hH X φ w s (KO o) w' (ZD fl) s2:=by
 cases o with
 |go=>rw[hO.go];exact⟨φ',T,.none⟩
 |ret d=>exact hO.ret.casesOn λv r=>⟨φ',T,r⟩
theorem oJ.trB(ok:oJ X f F fd body)(hs:F.sup=none):TrB fd.scope (gF fd.scope) body F.body:=by
 have:=ok.tr
 unfold chF at this
 rw[hs] at this
 exact this
theorem oL.fn{r:Nat}{ds:List V}{w1:W}{ρ':List V}{o:Out}(ok:oJ X f F fd body)(hs:F.sup=none)(hfree:∀p∈fd.scope.names,p.2≠.free)(hclo:fd.closure=[])(hl:ds.length=F.np)(h:Sts X r F.body (ds++aV (F.nv-F.np) .unset) w ρ' o w1):oL X (r+1) (.ref f) ds w (KO o) w1:=λφ s A vs R C M=>ok.at_.elim λob q=>by
 refine codeAny_call_cells (fd:=fd) (body:=body) (binds:=((gF fd.scope).take F.np).zip vs) M.limit (C.K _ _ q.1) q.2 C.noLimit (codeRec_of C.K ok.code) ok.bd (ok.bind vs (R.len.trans hl)) hclo (Nm ok _ vs) (λs1 I=>?_) ok.co ok.gen ok.kind
 have R1:=fW.enter ok C R hl hfree rfl I
 obtain⟨h1,tk,rfl,kp⟩:=I.done
 have T:=(fR.grow (s':={s with heap:=h1}) C kp rfl rfl).toks tk
 refine wpAny_mono (h.use (ok.trB hs) ⟨R1,T.cst,M.deeper _⟩ λφ2 s2 fl T2 hO F2=>Ea (S:=no) ((T.up.trans T2).hide (S':=no) λa ha=>tU ?_) hO) (λξ ξ x=>x) (λξ ξ x=>x.elim)
 rcases ha with rfl | ⟨n,hn⟩
 ·exact I.toInCall.fresh
 ·exact bW (aQ I.toInCall.fresh (I.above n a (mem_of_lookup hn)))
end
theorem qY{ρ:List V}{i j:Nat}{d d':V}(h:(ρ.set i d)[j]?=some d'):(i=j∧d=d')∨(i≠j∧ρ[j]?=some d'):=by
 rw[List.getElem?_set] at h
 by_cases q:i=j
 ·rw[if_pos q] at h
  split at h
  ·exact .inl ⟨q,Option.some.inj h⟩
  ·cases h
 ·rw[if_neg q] at h;exact .inr ⟨q,h⟩
inductive AsP(X:Pk)(S:Addr→Prop)(env:Env)(sc:Scope)(ns:List Str)(φ:List Addr)(w:W)(s:Shared)(ρ':List V)(w':W)(s':Shared):Prop
 |mk (φ':List Addr):fR X S φ w s φ' w' s'→fW X S φ' env sc ns ρ' s'.heap→AsP X S env sc ns φ w s ρ' w' s'
section
variable{X:Pk}{S:Addr→Prop}{φ:List Addr}{w:W}{s:Shared}{env:Env}{sc:Scope}{ns:List Str}{ρ:List V}
theorem fR.own(C:Cst X φ w s)(R:fW X S φ env sc ns ρ s.heap){a:Addr}{o':Obj}{h':Heap}{tk:Nat}(hS:S a)(hs:Heap.SameBut a s.heap h')(ha:h'.get? a=some o')(hm:yJ o') :
  fR X S φ w s φ w {s with heap:=h',toks:=tk}∧kJ X φ φ s.heap h'∧∀b,S b→Ps X φ h' b:=(R.ownOk a hS).casesOn λo q1 q2 q3 q4=>by
 have hk:∀b,b≠a→∀o,s.heap.get? b=some o→h'.get? b=some o:=λb q o e=>by rw[hs.2 b q];exact e
 have K:kJ X φ φ s.heap h':=⟨cA _,λb k its e ξ=>hk b (λq=>by rw[q,q3] at e;exact q4.tup _ _ (Option.some.inj e)) _ e,λb C' dx e=>hk b (λq=>by rw[q,q3] at e;exact q4.inst _ _ (Option.some.inj e)) _ e⟩
 refine⟨fR.chg C hk (λξ=>iB ha) q2 rfl rfl (λξ ξ=>hS) K rfl λn c e=>.inl ⟨e,λe=>q1 (aF e)⟩,K,λb hb=>(R.ownOk b hb).casesOn λob z1 z2 z3 z4=>?_⟩
 by_cases q:b=a
 ·rw[q];exact⟨o',q1,q2,ha,hm⟩
 ·exact⟨ob,z1,z2,hk b q _ z3,z4⟩
theorem Bb(R:fW X S φ env sc ns ρ s.heap)(C:Cst X φ w s){x:Str}{i:Nat}{v:Value}{d:V}{A:Around}(hi:gK x ns=some i)(hk:sc.names.lookup x=some .local∨sc.names.lookup x=some .cell)(r:Rep X φ s.heap v d) :
  WP X A (storeName env x v) (λξ s'=>AsP X S env sc ns φ w s (ρ.set i d) w s') s:=by
 have same:∀y,gK y ns=some i→y=x:=λy h1=>Option.some.inj ((iY h1).symm.trans (iY hi))
 have hlen:(ρ.set i d).length=ns.length:=by rw[bR];exact R.len
 rcases hk with hk | hk
 ·refine R.tab.casesOn λm hn hv=>wpAny_storeName_local (R.loc x hk) hn (λh' hn' hs=>?_) (by rw[R.kind];rfl)
  obtain⟨o',es',ep',e',hd',_⟩:=id hn'
  obtain⟨T,K,O⟩:=fR.own (tk:=s.toks+1) C R R.own hs e' (nO hd')
  refine⟨φ,T,R.kind,R.glob,R.blt,R.loc,R.cel,R.fre,R.glo,hlen,⟨_,hn',λy j d' h0 h1 h2 h3=>?_⟩,λy hy=>(R.cell y hy).casesOn λc u e1 e2 e3 e4=>⟨c,u,e1,e2.sameBut hs ?_,e3,λj d' h1 h2=>?_⟩,R.apart,R.own,O⟩
  ·rcases qY h3 with⟨rfl,rfl⟩ | ⟨q,h3⟩
   ·rw[if_pos (same y h2)];exact .mk v d (r.keeps K)
   ·rw[if_neg (by rintro rfl;exact q (Option.some.inj (hi.symm.trans h2)))]
    exact(hv y j d' h0 h1 h2 h3).keeps K
  ·rintro rfl
   obtain⟨o,es,ep,e,hd,_⟩:=hn
   obtain⟨oc,hoc,hdc⟩:=e2
   rw[e] at hoc;cases hoc;rw[hd] at hdc;cases hdc
  ·rcases qY h2 with⟨rfl,rfl⟩ | ⟨q,h2⟩
   ·have:=same y h1
    rw[this,hk] at hy
    rcases hy with hy | hy<;>cases hy
   ·exact(e4 j d' h1 h2).keeps K
 ·refine(R.cell x (.inl hk)).casesOn λc u e1 e2 e3 e4=>wpAny_storeName_cell R.kind (R.cel x hk) e1 e2 (λh' hc' hs=>?_)
  obtain⟨o',e',hd'⟩:=id hc'
  obtain⟨T,K,O⟩:=fR.own (tk:=s.toks) C R (e3 hk) hs e' (wH hd')
  refine⟨φ,T,R.kind,R.glob,R.blt,R.loc,R.cel,R.fre,R.glo,hlen,R.tab.casesOn λm hn hv=>⟨m,hn.sameBut hs ?_,λy j d' h0 h1 h2 h3=>?_⟩,λy hy=>(R.cell y hy).casesOn λc' u' f1 f2 f3 f4=>?_,R.apart,R.own,O⟩
  ·rintro e
   obtain⟨o,es,ep,e5,hd,_⟩:=hn
   obtain⟨oc,hoc,hdc⟩:=e2
   rw[←e,e5] at hoc;cases hoc;rw[hd] at hdc;cases hdc
  ·rcases qY h3 with⟨rfl,rfl⟩ | ⟨q,h3⟩
   ·rw[same y h2,hk] at h1;cases h1
   ·exact(hv y j d' h0 h1 h2 h3).keeps K
  ·by_cases q:c'=c
   ·rw[q] at f1
    rw[R.apart y x c f1 e1]
    refine⟨c,_,e1,hc',λξ=>e3 hk,λj d' h1 h2=>?_⟩
    rcases qY h2 with⟨rfl,rfl⟩ | ⟨q,h2⟩
    ·exact .mk v d (r.keeps K)
    ·exact(q (Option.some.inj (hi.symm.trans h1))).elim
   ·refine⟨c',u',f1,f2.sameBut hs q,f3,λj d' h1 h2=>?_⟩
    rcases qY h2 with⟨rfl,rfl⟩ | ⟨_,h2⟩
    ·rw[same y h1,e1] at f1;exact(q (Option.some.inj f1).symm).elim
    ·exact(f4 j d' h1 h2).keeps K
end
section
variable{X:Pk}{r:Nat}{ρ ρ1 ρ2 ρ3:List V}{w w1 w2 w3:W}
theorem aAh{sc ns pys}(h:TrB sc ns pys .nil):pM sc ns pys=true:=h
theorem Tt{sc ns pys s b}(h:TrB sc ns pys (.cons s b)):iM (chS s) (chB b) sc ns pys=true:=h
theorem Ua{sc ns py e}(h:TrS sc ns py (.expr e)):Mj e sc ns py=true:=h
theorem XR{sc ns py e}(h:TrS sc ns py (.ret e)):UX e sc ns py=true:=h
theorem UW{sc ns py}(h:TrS sc ns py .retn):Mf sc ns py=true:=h
theorem XU{sc ns py t e}(h:TrS sc ns py (.asg t e)):Uc t e sc ns py=true:=h
theorem XT{sc ns py o i q e}(h:TrS sc ns py (.aug o i q e)):Ub o i q e sc ns py=true:=h
theorem XS{sc ns py c a b}(h:TrS sc ns py (.ite c a b)):UY c (chB a) (chB b) sc ns py=true:=h
theorem XQ{sc ns py c a}(h:TrS sc ns py (.whl c a)):UV c (chB a) sc ns py=true:=h
theorem UZ{sc ns py t i a}(h:TrS sc ns py (.fors t i a)):Mi t i (chB a) sc ns py=true:=h
theorem Sts.nil:Sts X r .nil ρ w ρ .go w:=λpys sc ns ht S env φ s A F=>by
 rw[jR (aAh ht)]
 exact wpAny_execs_nil ⟨φ,.refl F.C,rfl,F.R⟩
theorem Sts.go{t:St}{ts:Bk}{o:Out}(h1:St1 X r t ρ w ρ1 .go w1)(h2:Sts X r ts ρ1 w1 ρ2 o w2):Sts X r (.cons t ts) ρ w ρ2 o w2:=λpys sc ns ht S env φ s A F=>(gX (Tt ht)).casesOn λp ps a b =>
 wpAny_execs_cons (h1.use a F λφ1 s1 f T1 O1 F1=>by
  rw[O1.go]
  exact h2.use b F1 λφ2 s2 f T2 O2 F2=>⟨φ2,T1.trans T2,O2,F2.R⟩)
theorem Sts.ret{t:St}{ts:Bk}{d:V}(h1:St1 X r t ρ w ρ1 (.ret d) w1):Sts X r (.cons t ts) ρ w ρ1 (.ret d) w1:=λpys sc ns ht S env φ s A F=>(gX (Tt ht)).casesOn λp ps a b =>
 wpAny_execs_cons (h1.use a F λφ1 s1 f T1 O1 F1=>O1.ret.casesOn λv q=>⟨φ1,T1,Dq.mk v q,F1.R⟩)
theorem fW.notInter{S φ env sc ns h}(R:fW X S φ env sc ns ρ h):interactive env=false:=by unfold interactive;rw[R.kind];rfl
theorem St1.expr{e:Ex}{d:V}(h:Ev X r e ρ w d w1):St1 X r (.expr e) ρ w ρ .go w1:=λpy sc ns ht S env φ s A F=>(CM (Ua ht)).casesOn λe p z =>
 wpAny_Expr_any (h.use (and2 z).2 F λφ1 s1 v T1 r1 F1=>⟨φ1,T1.up,rfl,F1.R⟩) F.R.notInter ((Tr.plain (and2 z).2).swaps (dU _ |>.mp (and2 z).1) _ _ _)
theorem St1.ret{e:Ex}{d:V}(h:Ev X r e ρ w d w1):St1 X r (.ret e) ρ w ρ (.ret d) w1:=λpy sc ns ht S env φ s A F=>(Ak (XR ht)).casesOn λe p z=>by
 obtain⟨e,rfl,z⟩:=iZ z
 exact wpAny_Return_some (h.use z F λφ1 s1 v T1 r1 F1=>⟨φ1,T1.up,Dq.mk v r1,F1.R⟩)
theorem St1.retn:St1 X r .retn ρ w ρ (.ret .none) w:=λpy sc ns ht S env φ s A F=>(Ak (UW ht)).casesOn λe p z=>by
 rw[cM.mp z]
 exact wpAny_Return_none ⟨φ,.refl F.C,Dq.mk _ Rep.none,F.R⟩
theorem St1.ite{c:Ce}{a b:Bk}{t:Bool}{o:Out}(h:Tst X r c ρ w t w1)(h2:Sts X r (if t then a else b) ρ w1 ρ2 o w2):St1 X r (.ite c a b) ρ w ρ2 o w2:=λpy sc ns ht S env φ s A F=>(HH (XS ht)).casesOn λc a b p z =>
 wpAny_If (h.use (and2 z).1 F λφ1 s1 T1 F1=>by
  cases t
  ·exact h2.use (and2 (and2 z).2).2 F1 λφ2 s2 f T2 O2 F2=>⟨φ2,T1.up.trans T2,O2,F2.R⟩
  ·exact h2.use (and2 (and2 z).2).1 F1 λφ2 s2 f T2 O2 F2=>⟨φ2,T1.up.trans T2,O2,F2.R⟩)
noncomputable def okR(Q:Flow→Shared→Prop)(q:Result)(s:Shared):Prop:=Except.casesOn q (λξ=>False) λf=>Q f s
theorem okR.imp{Q Q':Flow→Shared→Prop}{q:Result}{s:Shared}(h:okR Q q s)(k:∀f,Q f s→Q' f s):okR Q' q s:=by
 cases q with
 |error e=>exact h
 |ok f=>exact k f h
noncomputable def WhR(X:Pk)(r:Nat)(c:Ce)(b:Bk)(ρ:List V)(w:W)(ρ':List V)(o:Out)(w':W):Prop:=
 ∀pc pb sc ns,TrC sc ns pc c→TrB sc ns pb b→∀S env φ s A,Fr X r S φ env sc ns ρ w s A →
  codeAny (model P X.w) A (.whileLoop pc pb [] env) (okR (StP X S env sc ns φ w s ρ' o w')) s
theorem tG{X:Pk}{A:Around}{test:Expr}{body:List Stmt}{env:Env}{R:Result→Shared→Prop}{s:Shared}(h:WP X A (isTrue test env (eval test env)) (λb s₂ =>
    if b then WP X A (execs body env) (λf s₃=>match f with
      |.next | .cont=>codeAny (model P X.w) A (.whileLoop test body [] env) R s₃
      |.brk=>R (.ok .next) s₃
      |.ret v=>R (.ok (.ret v)) s₃) s₂
    else R (.ok .next) s₂) s):codeAny (model P X.w) A (.whileLoop test body [] env) R s:=by
 refine codeAny_of_tree ?_
 rw[show A.under (.whileLoop test body [] env)=A from Around.under_of_weight rfl]
 show wpAny _ A ((whileTurn test body [] env).onRaise (λx=>do noteFrame x env;theTreesLotGoes x)) _ _ s
 refine wpAny_noted ?_
 simp only[whileTurn]
 refine wpAny_bind (wpAny_mono h (λb s₂ h₂=>?_) λξ ξ h'=>h'.elim)
 cases b with
 |false =>
  simp only[Bool.false_eq_true,if_false] at h₂ ⊢
  exact wpAny_bind (wpAny_execs_nil (wpAny_pure h₂))
 |true =>
  simp only[if_true] at h₂ ⊢
  refine wpAny_bind (wpAny_mono h₂ (λf s₃ h₃=>?_) λξ ξ h'=>h'.elim)
  cases f with
  |next=>exact wpAny_pure ⟨rfl,h₃⟩
  |cont=>exact wpAny_pure ⟨rfl,h₃⟩
  |brk=>exact wpAny_pure h₃
  |ret v=>exact wpAny_pure h₃
theorem StP.after{S:Addr→Prop}{env:Env}{sc:Scope}{ns:List Str}{φ φ1:List Addr}{s s1 s2:Shared}{o:Out}{f:Flow}(T:fR X S φ w s φ1 w1 s1)(h:StP X S env sc ns φ1 w1 s1 ρ2 o w2 f s2):StP X S env sc ns φ w s ρ2 o w2 f s2:=
 h.casesOn λφ2 T2 O2 R2=>⟨φ2,T.trans T2,O2,R2⟩
theorem WhR.stop{c:Ce}{b:Bk}(h:Tst X r c ρ w false w1):WhR X r c b ρ w ρ .go w1:=λpc pb sc ns h1 h2 S env φ s A F =>
 tG (h.use h1 F λφ1 s1 T1 F1=>StP.mk φ1 T1.up rfl F1.R)
theorem WhR.go{c:Ce}{b:Bk}{o:Out}(h:Tst X r c ρ w true w1)(hb:Sts X r b ρ w1 ρ2 .go w2)(hn:WhR X r c b ρ2 w2 ρ3 o w3):WhR X r c b ρ w ρ3 o w3:=λpc pb sc ns h1 h2 S env φ s A F =>
 tG (h.use h1 F λφ1 s1 T1 F1=>by
  rw[if_pos rfl]
  refine hb.use h2 F1 λφ2 s2 f T2 O2 F2=>?_
  rw[O2.go]
  exact codeAny_mono (hn _ _ _ _ h1 h2 _ _ _ _ _ F2) λq s' x=>x.imp λf y=>y.after (T1.up.trans T2))
theorem WhR.ret{c:Ce}{b:Bk}{d:V}(h:Tst X r c ρ w true w1)(hb:Sts X r b ρ w1 ρ2 (.ret d) w2):WhR X r c b ρ w ρ2 (.ret d) w2:=λpc pb sc ns h1 h2 S env φ s A F =>
 tG (h.use h1 F λφ1 s1 T1 F1=>by
  rw[if_pos rfl]
  exact hb.use h2 F1 λφ2 s2 f T2 O2 F2=>O2.ret.casesOn λv q=>StP.mk φ2 (T1.up.trans T2) (Dq.mk v q) F2.R)
theorem St1.whl{c:Ce}{b:Bk}{o:Out}(h:WhR X r c b ρ w ρ2 o w2):St1 X r (.whl c b) ρ w ρ2 o w2:=λpy sc ns ht S env φ s A F=>(HF (XQ ht)).casesOn λc a z p q=>by
 rw[cF.mp (and2 q).1]
 refine wpAny_While (codeAny_mono (h _ _ _ _ (and2 (and2 q).2).1 (and2 (and2 q).2).2 _ _ _ _ _ F) λr s3 h3=>?_)
 cases r with
 |ok f=>exact h3
 |error e=>exact h3.elim
end
noncomputable def AsT(X:Pk)(r:Nat)(t:Tg)(d:V)(ρ:List V)(w:W)(ρ':List V)(w':W):Prop:=
 ∀py sc ns,TrT sc ns py t→∀S env φ s A v,Fr X r S φ env sc ns ρ w s A→Rep X φ s.heap v d→WP X A (assign py env v) (λξ s'=>AsP X S env sc ns φ w s ρ' w' s') s
noncomputable def yK(X:Pk)(r:Nat)(ts:Tgs)(ds:List V)(ρ:List V)(w:W)(ρ':List V)(w':W):Prop:=
 ∀pys sc ns,Dg sc ns pys ts→∀S env φ s A vs,Fr X r S φ env sc ns ρ w s A→fU X φ s.heap vs ds→WP X A (assignInOrder (pys.map λe=>assign e env) vs) (λξ s'=>AsP X S env sc ns φ w s ρ' w' s') s
noncomputable def BW:Tgs→Nat:=Tgs.rec (motive_1:=λξ=>Nat) (motive_2:=λξ=>Nat) (λξ=>0) (λξ ξ=>0) (λξ ξ=>0) (λξ ξ=>0) 0 λξ ξ ξ n=>n+1
theorem Hy{sc ns py i}(h:TrT sc ns py (.var i)):No i sc ns py=true:=h
theorem Cf{sc ns py o f}(h:TrT sc ns py (.attr o f)):Gh o f sc ns py=true:=h
theorem Hz{sc ns py a i}(h:TrT sc ns py (.idx a i)):DJ (chE a) (chE i) sc ns py=true:=h
theorem BY{sc ns py ts}(h:TrT sc ns py (.tup ts)):DI (Vx ts) sc ns py=true:=h
theorem ME{sc ns py}(h:Dg sc ns py .nil):pM sc ns py=true:=h
theorem GH{sc ns py t ts}(h:Dg sc ns py (.cons t ts)):iM (chT t) (Vx ts) sc ns py=true:=h
theorem ED{sc:Scope}{ns:List Str}{py:Expr}{t:Tg}(h:TrT sc ns py t)(es:List Expr)(env:Env):assignEach (py::es) env=(false,assign py env)::assignEach es env:=by
 cases t with
 |var i=>exact(iL (Hy h)).casesOn λξ ξ ξ=>rfl
 |attr o f=>exact(kZ (Cf h)).casesOn λξ ξ ξ ξ=>rfl
 |idx o i=>exact(jQ (Hz h)).casesOn λξ ξ ξ ξ=>rfl
 |tup ts=>exact(kC (BY h)).casesOn λξ ξ ξ ξ=>rfl
structure Zu(env:Env)(n:Nat)(es:List Expr):Prop where
 eq:assignEach es env=es.map λe=>(false,assign e env)
 len:es.length=n
theorem SJ{sc:Scope}{ns:List Str}(env:Env)(ts:Tgs):∀es,Dg sc ns es ts→Zu env (BW ts) es:=
 Tgs.rec (motive_1:=λξ=>True) (motive_2:=λts=>∀es,Dg sc ns es ts→Zu env (BW ts) es) (λξ=>trivial) (λξ ξ=>trivial) (λξ ξ=>trivial) (λξ ξ=>trivial)
  (λes h=>by rw[jR (ME h)];exact⟨rfl,rfl⟩) (λt ts ξ ih es h=>(gX (GH h)).casesOn λe es a b=>⟨by rw[ED a,(ih es b).eq];rfl,congrArg (· + 1) (ih es b).len⟩) ts
section
variable{X:Pk}{r:Nat}{ρ ρ1 ρ2:List V}{w w1 w2 w3:W}{S:Addr→Prop}{φ:List Addr}{env:Env}{sc:Scope}{ns:List Str}{s:Shared}{A:Around}
theorem AsT.use{t:Tg}{d:V}(h:AsT X r t d ρ w ρ1 w1){py:Expr}(ht:TrT sc ns py t)(F:Fr X r S φ env sc ns ρ w s A){v:Value}(rv:Rep X φ s.heap v d){Q:Unit→Shared→Prop}(k:∀φ1 s1,fR X S φ w s φ1 w1 s1→Fr X r S φ1 env sc ns ρ1 w1 s1 A→Q () s1):WP X A (assign py env v) Q s:=
 (h _ _ _ ht _ _ _ _ _ _ F rv).mono λv s1 x=>x.casesOn λφ1 T R=>k φ1 s1 T (F.own T R)
theorem yK.use{t:Tgs}{d:List V}(h:yK X r t d ρ w ρ1 w1){py:List Expr}(ht:Dg sc ns py t)(F:Fr X r S φ env sc ns ρ w s A){v:List Value}(rv:fU X φ s.heap v d){Q:Unit→Shared→Prop}(k:∀φ1 s1,fR X S φ w s φ1 w1 s1→Fr X r S φ1 env sc ns ρ1 w1 s1 A→Q () s1):WP X A (assignInOrder (py.map λe=>assign e env) v) Q s:=
 (h _ _ _ ht _ _ _ _ _ _ F rv).mono λv s1 x=>x.casesOn λφ1 T R=>k φ1 s1 T (F.own T R)
inductive Za(sc:Scope)(ns:List Str)(i:Nat):Expr→Prop | mk (x:Str) (p:Pos):gK x ns=some i→(sc.names.lookup x=some .local∨sc.names.lookup x=some .cell)→Za sc ns i (.Name x p)
theorem EE{py:Expr}{i:Nat}(h:TrT sc ns py (.var i)):Za sc ns i py:=(iL (Hy h)).casesOn λx p z =>
 ⟨x,p,(EA (eq_of_beq (and2 z).1)).idx,(cR.mp (and2 z).2).imp of_decide_eq_true of_decide_eq_true⟩
theorem AsT.var{i:Nat}{d:V}:AsT X r (.var i) d ρ w (ρ.set i d) w:=λpy sc ns ht S env φ s A v F rv=>(EE ht).casesOn λx p hi hk=>wpAny_assign_Name (Bb F.R F.C hi hk rv)
theorem AsT.attr(Kn:Known0 X){o:Ex}{f:Nat}{x d:V}(h1:Ev X r o ρ w x w1)(h:Qz w1 x f d=some w2):AsT X r (.attr o f) d ρ w ρ w2:=λpy sc ns ht S env φ s A v F rv=>(kZ (Cf ht)).casesOn λv0 at_ p z=>by
 obtain⟨rfl,hf2⟩:=AF (eq_of_beq (and2 z).2)
 rw[arm_assign_Attribute]
 exact wpAny_bind (wpAny_holding (h1.use (and2 z).1 F λφ1 s1 u T1 r1 F1=>wpAny_bind (wpAny_standAt (wpAny_bind (wpAny_holding ((Put.ok (r:=r) Kn h φ1 s1 A u v hf2 r1 (rv.step F.C T1) F1.C F1.M).mono λ_ s2 q =>
  q.casesOn λφ2 T2=>wpAny_release ⟨φ2,(T1.trans T2).up,F1.R.step F1.C T2⟩))))))
theorem AsT.idx{o i:Ex}{x y d:V}(h1:Ev X r o ρ w x w1)(h2:Ev X r i ρ w1 y w2)(h:Sto X r x y d w2 w3):AsT X r (.idx o i) d ρ w ρ w3:=λpy sc ns ht S env φ s A v F rv=>(jQ (Hz ht)).casesOn λv0 i0 p q=>by
 rw[arm_assign_Subscript]
 exact wpAny_bind (wpAny_holding (h1.use (and2 q).1 F λφ1 s1 u T1 r1 F1=>wpAny_bind (wpAny_holding (h2.use (and2 q).2 F1 λφ2 s2 z T2 r2 F2=>wpAny_bind (wpAny_standAt (wpAny_bind (wpAny_holding
  ((h φ2 s2 A u z v (r1.step F1.C T2) r2 ((rv.step F.C T1).step F1.C T2) F2.C F2.M).mono λξ s3 q=>q.casesOn λφ3 T3=>wpAny_release ⟨φ3,((T1.trans T2).trans T3).up,F2.R.step F2.C T3⟩))))))))
theorem yK.nil:yK X r .nil [] ρ w ρ w:=λpys sc ns ht S env φ s A vs F rv=>by
 rw[jR (ME ht),rv.nil_inv]
 exact wpAny_pure ⟨φ,.refl F.C,F.R⟩
theorem yK.cons{t:Tg}{ts:Tgs}{d:V}{ds:List V}(h1:AsT X r t d ρ w ρ1 w1)(h2:yK X r ts ds ρ1 w1 ρ2 w2):yK X r (.cons t ts) (d::ds) ρ w ρ2 w2:=λpys sc ns ht S env φ s A vs F rv=>(gX (GH ht)).casesOn λe es a b=>rv.cons_inv.casesOn λv us r1 r2=>by
 rw[aY]
 show wpAny _ _ (do holding _ (assign _ env _);assignInOrder _ _) _ _ _
 exact wpAny_bind (wpAny_holding (h1.use a F r1 λφ1 s1 T1 F1=>h2.use b F1 (r2.own F.R F.C T1) λφ2 s2 T2 F2=>⟨φ2,T1.trans T2,F2.R⟩))
theorem AsT.tup{ts:Tgs}{ds:List V}(hl:ds.length=BW ts)(h:yK X r ts ds ρ w ρ1 w1):AsT X r (.tup ts) (.tup ds) ρ w ρ1 w1:=λpy sc ns ht S env φ s A v F rv=>(kC (BY ht)).casesOn λes k p a=>rv.tup_inv.casesOn λl n vs ho rs ξ ξ=>by
 have E:=SJ env ts es a
 refine assign_Tuple_tuple (items:=vs.toArray) F.M.hand ⟨_,ho,rfl,n,rfl⟩ ?_ ?_ λh' hk=>?_
 ·rw[E.eq,aA,E.len,bY,rs.len,hl]
 ·rw[E.eq,List.findIdx?_map,List.findIdx?_eq_none_iff];simp
 ·have T:=fR.grow (s':={s with heap:=h'}) F.C (λb o e=>hk b o (bG (cY e)) e) rfl rfl
  rw[E.eq,cL]
  exact h.use a (F.step T) (rs.step F.C T) λφ2 s2 T2 F2=>⟨φ2,T.up.trans T2,F2.R⟩
end
theorem vH{α:Type}[BEq α][LawfulBEq α]:∀(n:Nat) (l:List α),l.length≤n→l.eraseDups.length≤l.length
 |_,[],_=>by simp
 |n+1,a::as,h=>by
  rw[List.eraseDups_cons,cT,cT]
  have h1:=bZ (λb=>!b==a) as
  have h2:=vH n (as.filter λb=>!b==a) (by simp only[cT] at h;exact aE h1 (eG h))
  lia
theorem qN{α:Type}[BEq α][LawfulBEq α]:∀(l:List α),l.eraseDups.length=l.length→l.Nodup
 |[],_=>.nil
 |a::as,h=>by
  rw[List.eraseDups_cons,cT,cT] at h
  have h1:=bZ (λb=>!b==a) as
  have h2:=vH _ (as.filter λb=>!b==a) (aO _)
  have h3:(as.filter λb=>!b==a).length=as.length:=by lia
  have h4:as.filter (λb=>!b==a)=as:=eD.mp h3 |> fC.mpr
  rw[h4] at h
  rw[cZ]
  refine⟨λhm=>?_,qN as (by simp_all +arith)⟩
  have:=eD.mp h3 a hm
  simp at this
theorem rM{α β:Type}{f:α→Option β}:∀{l:List α},(l.filterMap f).length=l.length→l.map f=(l.filterMap f).map some
 |[],_=>rfl
 |a::as,h=>by
  have h1:=List.length_filterMap_le f as
  rw[List.filterMap_cons] at h ⊢
  cases q:f a with
  |none=>rw[q] at h;simp only[cT] at h;exact False.elim (bG (aQ h1 Nat.le.refl) h)
  |some b =>
   rw[q] at h
   simp only[cT,Nat.add_right_cancel_iff] at h
   simp only[aY,q,rM h]
structure Ze(ts vs:List Expr)(names:List Str)(f:Expr→Option Str):Prop where
 nd:names.Nodup
 len:names.length=2∨names.length=3
 vs:vs.length=names.length
 isName:∀e x,f e=some x→∃q,e=.Name x q
 eq:ts.map f=names.map some
noncomputable def SwR(ts vs:List Expr)(m:Sem (Option (List Str))):Prop:=m=pure none∨∃names f,m=pure (some names)∧Ze ts vs names f
theorem GJ{ts vs:List Expr}{k k':Nat}{p p':Pos}{env:Env}(hok:JU (.Tuple vs k' p')=true):SwR ts vs (swappedStores [.Tuple ts k p] (.Tuple vs k' p') env):=by
 unfold swappedStores
 dsimp only
 refine iteInduction (motive:=SwR ts vs) (λξ=>.inl rfl) λh1=>?_
 refine iteInduction (motive:=SwR ts vs) (λξ=>.inl rfl) λξ=>?_
 refine iteInduction (motive:=SwR ts vs) (λξ=>.inl rfl) λh2=>?_
 refine iteInduction (motive:=SwR ts vs) (λξ=>.inl rfl) λh3=>?_
 refine iteInduction (motive:=SwR ts vs) (λh4=>?_) λξ=>?_
 ·exfalso
  replace hok:(!(vs.all (constantsAlone 8)&&!vs.all (foldedForSure 8)))=true:=hok
  rw[h4,fJ.mpr h3] at hok
  exact nomatch hok
 simp only[Bool.or_eq_true,dU,bne_iff_ne,ne_eq,not_or,Bool.not_eq_false,beq_iff_eq,Decidable.not_not] at h1 h2
 obtain⟨h2,h5⟩:=h2
 obtain⟨⟨h6,h7⟩,_⟩:=h1
 refine .inr ⟨_,_,rfl,qN _ h5,by rw[h2];exact h6,by rw[h2];exact h7,λe x hx=>?_,rM h2⟩
 cases e with
 |Name y q =>
  refine⟨q,?_⟩
  revert hx
  exact iteInduction (motive:=λo=>o=some x→_) (λξ h=>by rw[Option.some.inj h]) λξ h=>nomatch h
 |_=>exact nomatch hx
noncomputable def wA(ρ:List V):List Nat→List V→List V
 |i::is,d::ds=>wA (ρ.set i d) is ds
 |_,_=>ρ
noncomputable def MB(t:Tg):Option Nat:=Tg.casesOn (motive_1:=λξ=>Option Nat) t some (λξ ξ=>none) (λξ ξ=>none) λξ=>none
noncomputable def zL:Tgs→Option (List Nat):=Tgs.rec (motive_1:=λξ=>Unit) (motive_2:=λξ=>Option (List Nat)) (λξ=>()) (λξ ξ=>()) (λξ ξ=>()) (λξ ξ=>()) (some []) λt ξ ξ r=>(MB t).bind λi=>r.map (i::·)
theorem CF{ns:List Str}:∀(names:List Str) (is:List Nat),names.map (λx=>gK x ns)=is.map some→names.Nodup→is.Nodup
 |[],[],_,_=>.nil
 |[],_::_,h,_=>by simp at h
 |_::_,[],h,_=>by simp at h
 |x::xs,i::is,h,hn=>by
  simp only[aY,List.cons.injEq] at h
  rw[cZ] at hn ⊢
  refine⟨λhm=>?_,CF xs is h.2 hn.2⟩
  have:some i∈xs.map (λx=>gK x ns):=by rw[h.2];exact List.mem_map_of_mem hm
  obtain⟨y,hy,e⟩:=bL.mp this
  have h1:=iY h.1
  have h2:=iY e
  rw[h1] at h2
  cases h2
  exact hn.1 hy
section
variable{X:Pk}{r:Nat}{ρ ρ1 ρ2:List V}{w w1 w2 w3:W}
theorem YG{α β:Type}{l:List α}{m:List β}{a:α}(h:m.length=(a::l).length):∃b k,m=b::k∧k.length=l.length:=by
 cases m with
 |nil=>cases h
 |cons b k=>exact⟨b,k,rfl,eY.inj h⟩
theorem EK{S:Addr→Prop}{env:Env}{sc:Scope}{ns:List Str}{A:Around}:∀(names:List Str) (is:List Nat) {ρ:List V} {φ:List Addr} {s:Shared} {vs:List Value} {ds:List V},names.map (λx=>gK x ns)=is.map some →
  (∀x∈names,sc.names.lookup x=some .local∨sc.names.lookup x=some .cell)→fW X S φ env sc ns ρ s.heap→Cst X φ w s→fU X φ s.heap vs ds→ds.length=is.length →
  WP X A (assignInOrder (names.map λn=>bindName env n) vs) (λξ s'=>AsP X S env sc ns φ w s (wA ρ is ds) w s') s:=by
 intro names
 induction names with
 |nil =>
  intro is ρ φ s vs ds h _ R C rv hl
  have e:is=[]:=List.map_eq_nil_iff.mp h.symm
  subst e
  have e2:=dD.mp hl
  subst e2
  rw[rv.nil_inv];exact wpAny_pure ⟨φ,.refl C,R⟩
 |cons x xs ih =>
  intro is ρ φ s vs ds h hk R C rv hl
  cases is with
  |nil=>cases h
  |cons i is =>
   obtain⟨d,ds,rfl,hl2⟩:=YG hl
   rw[aY,aY,List.cons.injEq] at h
   refine rv.cons_inv.casesOn λv us r1 r2=>?_
   rw[aY]
   show wpAny _ _ (do holding _ (bindName env x _);assignInOrder _ _) _ _ _
   exact wpAny_bind (wpAny_holding (wpAny_bindName ((Bb R C h.1 (hk x aZ) r1).mono λξ s1 q=>q.casesOn λφ1 T1 R1 =>
    (ih is h.2 (λy hy=>hk y (bA _ hy)) R1 T1.cst (r2.own R C T1) hl2).mono λξ s2 q=>q.casesOn λφ2 T2 R2=>⟨φ2,T1.trans T2,R2⟩)))
theorem fU.reverse{φ:List Addr}{h:Heap}:∀(ds:List V) (vs:List Value),fU X φ h vs ds→fU X φ h vs.reverse ds.reverse:=
 List.rec (λvs r=>by rw[r.nil_inv];exact .nil) λd ds ih vs r=>r.cons_inv.casesOn λv us a r=>by
  rw[List.reverse_cons,List.reverse_cons]
  exact(ih us r).app (.cons a .nil)
theorem zI{α:Type}{l:List α}(h:l.length=2):∃a b,l=[a,b]:=by
 cases l with
 |nil=>cases h
 |cons a k =>
  cases k with
  |nil=>cases h
  |cons b m=>exact⟨a,b,by rw[dD.mp (eY.inj (eY.inj h))]⟩
theorem EC{α:Type}{l:List α}(h:l.length=3):∃a b c,l=[a,b,c]:=by
 cases l with
 |nil=>cases h
 |cons a k=>exact(zI (eY.inj h)).elim λb q=>q.elim λc e=>⟨a,b,c,by rw[e]⟩
theorem GN(is:List Nat)(ds:List V)(ρ:List V)(hn:is.Nodup)(h:is.length=2∨is.length=3)(hl:ds.length=is.length):wA ρ is.reverse ds.reverse=wA ρ is ds:=by
 rcases h with h | h
 ·obtain⟨i,j,rfl⟩:=zI h
  obtain⟨a,b,rfl⟩:=zI (hl.trans h)
  have:i≠j:=by simpa using hn
  show(ρ.set j b).set i a=(ρ.set i a).set j b
  rw[List.set_comm _ _ this]
 ·obtain⟨i,j,k,rfl⟩:=EC h
  obtain⟨a,b,c,rfl⟩:=EC (hl.trans h)
  simp only[cZ,bJ,eH,or_false,not_or,List.nodup_nil,and_true,not_false_eq_true] at hn
  obtain⟨⟨h1,h2⟩,h3⟩:=hn
  show((ρ.set k c).set j b).set i a=((ρ.set i a).set j b).set k c
  rw[List.set_comm c b (Ne.symm h3),List.set_comm c a (Ne.symm h2),List.set_comm b a (Ne.symm h1)]
structure zC(sc:Scope)(ns:List Str)(ts:Tgs)(names:List Str)(is:List Nat):Prop where
 eq:zL ts=some is
 idx:names.map (λx=>gK x ns)=is.map some
 kind:∀x∈names,sc.names.lookup x=some .local∨sc.names.lookup x=some .cell
theorem RR{sc:Scope}{ns:List Str}{x:Str}{q:Pos}{t:Tg}(h:TrT sc ns (.Name x q) t):∃i,t=.var i:=by
 cases t<;>first | exact⟨_,rfl⟩ | exact absurd h bC
theorem NI{sc:Scope}{ns:List Str}{f:Expr→Option Str}(hf:∀e x,f e=some x→∃q,e=.Name x q)(ts:Tgs):∀(es:List Expr) (names:List Str),Dg sc ns es ts→es.map f=names.map some→∃is,zC sc ns ts names is:=
 Tgs.rec (motive_1:=λξ=>True) (motive_2:=λts=>∀(es:List Expr) (names:List Str),Dg sc ns es ts→es.map f=names.map some→∃is,zC sc ns ts names is) (λξ=>trivial) (λξ ξ=>trivial) (λξ ξ=>trivial) (λξ ξ=>trivial)
  (λes names h he=>by
   rw[jR (ME h)] at he
   rw[List.map_eq_nil_iff.mp he.symm]
   exact⟨[],rfl,rfl,λx hx=>nomatch hx⟩)
  (λt ts ξ ih es names h he=>(gX (GH h)).casesOn (motive:=λes ξ=>es.map f=names.map some→∃is,zC sc ns (.cons t ts) names is) (λe es a b he=>by
   cases names with
   |nil=>cases he
   |cons x xs =>
    rw[aY,aY,List.cons.injEq] at he
    obtain⟨q,rfl⟩:=hf _ _ he.1
    obtain⟨i,rfl⟩:=RR a
    obtain⟨is,hi⟩:=ih es xs b he.2
    exact(EE a).casesOn (motive:=λe ξ=>e=.Name x q→∃is,zC sc ns (.cons (.var i) ts) (x::xs) is) (λx' q' h1 h2 e=>by
     cases e
     refine⟨i::is,by show((some i).bind λi=>(zL ts).map (i::·))=_;rw[hi.eq];rfl,by rw[aY,h1,hi.idx];rfl,λy hy=>?_⟩
     rcases bJ.mp hy with rfl | hy
     ·exact h2
     ·exact hi.kind y hy) rfl) he) ts
noncomputable def EvU(X:Pk)(r:Nat)(e:Ex)(ρ:List V)(w:W)(d:V)(w':W):Prop:=
 ∀py sc ns,Tr sc ns py e→∀S env φ s A,Fr X r S φ env sc ns ρ w s A→∀(u:Value→Sem Unit) (ρ2:List V) (w2:W),
  (∀φ1 s1 v,fR X no φ w s φ1 w' s1→Fr X r S φ1 env sc ns ρ w' s1 A→Rep X φ1 s1.heap v d→WP X A (u v) (λξ s2=>AsP X S env sc ns φ1 w' s1 ρ2 w2 s2) s1) →
  WP X A (evalThenUse py env u) (λξ s2=>AsP X S env sc ns φ w s ρ2 w2 s2) s
theorem GI{py:Expr}(h:DM py=true)(t:Expr)(line:Nat)(env:Env):∃b,swapsWith py (some t) line env=pure b:=
 Expr.ListComp.elim (motive_1:=λpy=>∃b,swapsWith py (some t) line env=pure b) py (of_decide_eq_true h) λξ ξ ξ ξ=>by cases t<;>exact⟨_,rfl⟩
theorem Fo{sc:Scope}{ns:List Str}{t0:Expr}{t:Tg}(a:TrT sc ns t0 t)(env:Env):(assignEach [t0] env).map (·.2)=[assign t0 env]:=by rw[ED a];rfl
noncomputable def zD(t:Tg)(ρ:List V)(d:V)(ρ2:List V)(w1 w2:W):Prop:=∀ts is,t=.tup ts→zL ts=some is→∃ds,d=.tup ds∧ds.length=is.length∧ρ2=wA ρ is ds∧w2=w1
section
variable{S:Addr→Prop}{φ:List Addr}{env:Env}{sc:Scope}{ns:List Str}{s:Shared}{A:Around}{t:Tg}{e:Ex}{d:V}{t0 e0:Expr}
theorem pZ(h2:AsT X r t d ρ w1 ρ2 w2)(a:TrT sc ns t0 t)(F:Fr X r S φ env sc ns ρ w1 s A){v:Value}(rv:Rep X φ s.heap v d)(q:swappedStores [t0] e0 env=pure none) :
  WP X A (do let y ←swappedStores [t0] e0 env;assignStores env v y ((assignEach [t0] env).map (·.2))) (StP X S env sc ns φ w1 s ρ2 .go w2) s:=by
 rw[q,Fo a]
 refine wpAny_bind (wpAny_pure ?_)
 show wpAny _ _ (assign t0 env v >>= λξ=>pure Flow.next) _ _ _
 exact wpAny_bind (h2.use a F rv λφ2 s2 T2 F2=>wpAny_pure ⟨φ2,T2,rfl,F2.R⟩)
theorem PE{ts:Tgs}{es vs0:List Expr}{k k1:Nat}{p p1:Pos}{names:List Str}{f:Expr→Option Str}(h3:zD (.tup ts) ρ d ρ2 w1 w2)(a:Dg sc ns es ts)(F:Fr X r S φ env sc ns ρ w1 s A){v:Value}(rv:Rep X φ s.heap v d)(q:swappedStores [.Tuple es k p] (.Tuple vs0 k1 p1) env=pure (some names))(sw:Ze es vs0 names f){L:List (Value→Sem Unit)} :
  WP X A (do let y ←swappedStores [.Tuple es k p] (.Tuple vs0 k1 p1) env;assignStores env v y L) (StP X S env sc ns φ w1 s ρ2 .go w2) s:=by
 rw[q]
 refine wpAny_bind (wpAny_pure ?_)
 obtain⟨is,e1⟩:=NI sw.isName ts es names a sw.eq
 obtain⟨ds,rfl,e3,rfl,rfl⟩:=h3 ts is rfl e1.eq
 have hl1:names.length=is.length:=by simpa using congrArg List.length e1.idx
 have hnd:is.Nodup:=CF names is e1.idx sw.nd
 refine rv.tup_inv.casesOn λl n vs ho rs ξ ξ=>?_
 refine wpAny_bind (wpAny_rule (wpAny_bind ?_))
 rw[show names.length=vs.toArray.size from by rw[bY,rs.len,e3,hl1]]
 refine unpackItems_tuple (items:=vs.toArray) F.M.hand ⟨_,ho,rfl,n,rfl⟩ λh' hk=>?_
 have T:=fR.grow (s':={s with heap:=h'}) F.C (λb o e=>hk b o (bG (cY e)) e) rfl rfl
 have rs':=fU.reverse _ _ (rs.step F.C T)
 refine wpAny_bind ((EK (names.reverse) is.reverse (by rw[List.map_reverse,List.map_reverse,e1.idx]) (λx hx=>e1.kind x (List.mem_reverse.mp hx)) (F.R.step F.C T) T.cst rs' (by rw[List.length_reverse,List.length_reverse];exact e3)).mono λξ s2 q=>q.casesOn λφ2 T2 R2=>?_)
 rw[GN is ds ρ hnd (by rw[←hl1];exact sw.len) e3] at R2
 exact wpAny_pure ⟨φ2,T.up.trans T2,rfl,R2⟩
theorem HE(h2:AsT X r t d ρ w1 ρ2 w2)(h3:zD t ρ d ρ2 w1 w2)(hok:JU e0=true)(a:TrT sc ns t0 t)(hp:Tr sc ns e0 e)(F:Fr X r S φ env sc ns ρ w1 s A){v:Value}(rv:Rep X φ s.heap v d) :
  WP X A (do let y ←swappedStores [t0] e0 env;assignStores env v y ((assignEach [t0] env).map (·.2))) (StP X S env sc ns φ w1 s ρ2 .go w2) s:=by
 cases t with
 |var i=>exact pZ h2 a F rv ((iL (Hy a)).casesOn λξ ξ ξ=>rfl)
 |attr o f=>exact pZ h2 a F rv ((kZ (Cf a)).casesOn λξ ξ ξ ξ=>rfl)
 |idx o i=>exact pZ h2 a F rv ((jQ (Hz a)).casesOn λξ ξ ξ ξ=>rfl)
 |tup ts =>
  by_cases q:e0.ctorIdx=25
  ·refine Expr.Tuple.elim (motive_1:=λe0=>JU e0=true→WP X A (do let y ←swappedStores [t0] e0 env;assignStores env v y ((assignEach [t0] env).map (·.2))) (StP X S env sc ns φ w1 s ρ2 .go w2) s) e0 q (λvs0 k1 p1 hok=>?_) hok
   refine(kC (BY a)).casesOn (motive:=λt0 ξ=>TrT sc ns t0 (.tup ts)→WP X A (do let y ←swappedStores [t0] (.Tuple vs0 k1 p1) env;assignStores env v y ((assignEach [t0] env).map (·.2))) (StP X S env sc ns φ w1 s ρ2 .go w2) s) (λes k p b a=>?_) a
   rcases GJ (ts:=es) (k:=k) (p:=p) (env:=env) hok with q | ⟨names,f,q,sw⟩
   ·exact pZ h2 a F rv q
   ·exact PE h3 b F rv q sw
  ·exact pZ h2 a F rv ((kC (BY a)).casesOn λes k p b=>by cases e0<;>first | rfl | exact absurd rfl q)
theorem St1.asg(h1:Ev X r e ρ w d w1)(hu:isC e=true→EvU X r e ρ w d w1)(h2:AsT X r t d ρ w1 ρ2 w2)(h3:zD t ρ d ρ2 w1 w2):St1 X r (.asg t e) ρ w ρ2 .go w2:=λpy sc ns ht S env φ s A F=>(HL (XU ht)).casesOn λts e0 pos z=>(sH z).casesOn λt0 z=>by
 have a:TrT sc ns t0 t:=(and2 (and2 (and2 z).2).2).1
 have b:Tr sc ns e0 e:=(and2 (and2 (and2 z).2).2).2
 have hc:=eq_of_beq (and2 (and2 z).2).1
 rw[exec_Assign_arm]
 refine wpAny_bind (wpAny_standAt ?_)
 show wpAny _ _ (swapsWith e0 (some t0) pos.line env >>= _) _ _ _
 have plain:WP X A (do let v ←eval e0 env;assignStores env v (←swappedStores [t0] e0 env) ((assignEach [t0] env).map (·.2))) (StP X S env sc ns φ w s ρ2 .go w2) s:=
  wpAny_bind (h1.use b F λφ1 s1 v T1 r1 F1=>(HE h2 h3 (and2 z).1 a b F1 r1).mono λf s2 q=>q.after T1.up)
 cases hq:isC e with
 |false =>
  rw[hq] at hc
  rw[(Tr.plain b).swaps hc]
  exact wpAny_bind (wpAny_pure plain)
 |true =>
  rw[hq] at hc
  obtain⟨b0,q⟩:=GI hc t0 pos.line env
  rw[q]
  refine wpAny_bind (wpAny_pure ?_)
  cases b0 with
  |false=>exact plain
  |true =>
   rw[Fo a]
   refine wpAny_bind ((hu hq _ _ _ b _ _ _ _ _ F _ ρ2 w2 λφ1 s1 v T1 F1 r1=>?_).mono λξ s2 q=>q.casesOn λφ2 T2 R2=>wpAny_pure ⟨φ2,T2,rfl,R2⟩)
   show wpAny _ _ (assign t0 env v) _ _ _
   exact h2.use a F1 r1 λφ2 s2 T2 F2=>⟨φ2,T2,F2.R⟩
end
end
end
section
open PySem PySem.W PyProof.Rows
set_option maxRecDepth 100000
noncomputable abbrev jB(h:Heap)(T:Addr)(a b c:Value):Prop:=h.get? T=some {cls:=.type "tuple",data:=.seq #[a,b,c]}
section
variable{prog:Program}{w:World}{A:Around}{E:Value→Shared→Prop}{s:Shared}
theorem uL{it t:Addr}{i:Nat}{items}{x:Value}{Q:Value→Shared→Prop}(hit:IsTupIter s.heap it t i)(ht:IsTup s.heap t items)(hx:items[i]?=some x)(hQ:∀h',IsTupIter h' it t (i+1)→Heap.SameBut it s.heap h'→Q x {s with heap:=h'}) :
  wpAny (model prog w) A (Builtin.SmallTypes.nextOf (.ref it)) Q E s:=by
 obtain⟨o,ho,hc,hd⟩:=id hit
 obtain⟨ot,hot,_,n,hdt⟩:=ht
 unfold Builtin.SmallTypes.nextOf
 refine wpAny_bind (wpAny_callSpecial?_slot (name:=Str.ofString "__next__") hit.typeIs slot_tupleiter_next (wpAny_call_entry slot_tupleiter_next hit.typeIs entry_tupleiter_next ?_ (args_tupleiter_next _)))
 show wpAny _ _ (field (.ref it) 0 >>= _) _ _ s
 refine wpAny_bind (wpAny_field ho hd (x:=.ref t) rfl ?_)
 show wpAny _ _ (if(Value.ref t==Value.none)=true then _ else _) _ _ s
 rw[if_neg (show ¬((Value.ref t==Value.none)=true) from bC)]
 show wpAny _ _ (field (.ref it) 1 >>= _) _ _ s
 refine wpAny_bind (wpAny_field ho hd (x:=.int i 0) rfl ?_)
 show wpAny _ _ (seqItems? (.ref t) >>= _) _ _ s
 refine wpAny_bind (wpAny_seqItems hot hdt ?_)
 simp only[dO,hx]
 refine wpAny_bind (wpAny_setField ho hd (by simp) (wpAny_pure ⟨x,rfl,wpAny_pure (hQ _ ?_ (Heap.SameBut.update ..))⟩))
 refine⟨_,dL _ ho (Obj.isFreed_of_fields (Obj.data_mapFields hd _)),(Obj.cls_mapFields ..).trans hc,?_⟩
 rw[Obj.data_mapFields hd];simp[rawInt]
theorem wG{it t:Addr}{i:Nat}{items}{Q:Value→Shared→Prop}(hh:A.handled=none)(hit:IsTupIter s.heap it t i)(ht:IsTup s.heap t items)(hx:items[i]?=none)(hE:∀h' e,Heap.ExtBut it s.heap h'→(∃o,h'.get? e=some o∧o.cls=.type "StopIteration")→E (.ref e) {s with heap:=h'}) :
  wpAny (model prog w) A (Builtin.SmallTypes.nextOf (.ref it)) Q E s:=by
 obtain⟨o,ho,hc,hd⟩:=id hit
 obtain⟨ot,hot,_,n,hdt⟩:=ht
 unfold Builtin.SmallTypes.nextOf
 refine wpAny_bind (wpAny_callSpecial?_slot (name:=Str.ofString "__next__") hit.typeIs slot_tupleiter_next (wpAny_call_entry slot_tupleiter_next hit.typeIs entry_tupleiter_next ?_ (args_tupleiter_next _)))
 show wpAny _ _ (field (.ref it) 0 >>= _) _ _ s
 refine wpAny_bind (wpAny_field ho hd (x:=.ref t) rfl ?_)
 show wpAny _ _ (if(Value.ref t==Value.none)=true then _ else _) _ _ s
 rw[if_neg (show ¬((Value.ref t==Value.none)=true) from bC)]
 show wpAny _ _ (field (.ref it) 1 >>= _) _ _ s
 refine wpAny_bind (wpAny_field ho hd (x:=.int i 0) rfl ?_)
 show wpAny _ _ (seqItems? (.ref t) >>= _) _ _ s
 refine wpAny_bind (wpAny_seqItems hot hdt ?_)
 simp only[dO,hx]
 refine wpAny_bind (wpAny_rule (wpAny_bind (wpAny_setField ho hd (by simp) ?_)))
 refine wpAny_bind ?_
 simp only[newExc,newTuple]
 refine wpAny_bind (wpAny_newObj_type ?_ (by size_fits))
 refine wpAny_bind (m:=firstArgMember _ _) (wpAny_of_eq (a:=Value.none) rfl ?_)
 refine wpAny_newObj_type ?_ (by size_fits)
 simp only[raiseNew]
 refine wpAny_bind (wpAny_handled ?_)
 rw[show A.in1.handled=none from hh]
 exact wpAny_bind (wpAny_pure (wpAny_throw (hE _ _ (((Heap.SameBut.update ..).extBut.push _).push _) ⟨_,aW _ rfl,rfl⟩)))
theorem BC{T:Addr}{a b c x:Value}{k:Nat}{Q:Unit→Shared→Prop}(hT:jB s.heap T a b c)(h:∀h',h'.get? T=some {cls:=.type "tuple",data:=.seq ((#[a,b,c]:Array Value).setIfInBounds k x)}→Heap.SameBut T s.heap h'→Q () {s with heap:=h'}) :
  wpAny (model prog w) A (updateSeq T (·.setIfInBounds k x)) Q E s:=by
 refine wpAny_updateSeq hT rfl (h _ ?_ (Heap.SameBut.update ..))
 rw[dL _ hT rfl]
 simp[Obj.mapSeq]
structure Tri(z TI TO i1 i2 i3 t1 t2 t3:Addr):Prop where
 a1:TI≠z
 a2:TO≠z
 a3:i1≠z
 a4:i2≠z
 a5:i3≠z
 b1:TI≠TO
 b2:TI≠i1
 b3:TI≠i2
 b4:TI≠i3
 c1:TO≠i1
 c2:TO≠i2
 c3:TO≠i3
 d1:i1≠i2
 d2:i1≠i3
 d3:i2≠i3
 t1z:t1≠z
 t1O:t1≠TO
 t11:t1≠i1
 t12:t1≠i2
 t13:t1≠i3
 t2z:t2≠z
 t2O:t2≠TO
 t21:t2≠i1
 t22:t2≠i2
 t23:t2≠i3
 t3z:t3≠z
 t3O:t3≠TO
 t31:t3≠i1
 t32:t3≠i2
 t33:t3≠i3
theorem vW{h h':Heap}{t:Addr}{items}(x:IsTup h t items)(k:∀o,h.get? t=some o→h'.get? t=some o):IsTup h' t items:=by
 obtain⟨o,e,r⟩:=x;exact⟨o,k _ e,r⟩
theorem kR{h h':Heap}{t:Addr}{a n}(x:IsTupIter h t a n)(k:∀o,h.get? t=some o→h'.get? t=some o):IsTupIter h' t a n:=by
 obtain⟨o,e,r⟩:=x;exact⟨o,k _ e,r⟩
inductive Pe(prog:Program)(w:World)(A:Around)(z TI TO i1 i2 i3:Addr):Prop
 |mk (f:Value×Nat→Option Fin×PUnit→Sem (ForInStep (Option Fin×PUnit))) (k:Option Fin×PUnit→Sem Fin) :
  (∀{s:Shared} {Q:Fin→Shared→Prop} {E:Value→Shared→Prop},IsZip s.heap z TI TO .none→jB s.heap TI (.ref i1) (.ref i2) (.ref i3) →
   (∀p1,IsZip p1 z TI TO .ellipsis→Heap.SameBut z s.heap p1→wpAny (model prog w) A (forIn [(Value.ref i1,0),(.ref i2,1),(.ref i3,2)] (none,()) f) (λb s'=>wpAny (model prog w) A (k b) Q E s') E {s with heap:=p1}) →
   wpAny (model prog w) A (Builtin.«zip.__next__» ⟨[.ref z],[]⟩) Q E s) →
  (∀{s:Shared} {Q:ForInStep (Option Fin×PUnit)→Shared→Prop} {E:Value→Shared→Prop} {n j:Nat} {it t:Addr} {u:Array Value} {x a b c:Value},IsTupIter s.heap it t j→IsTup s.heap t u→u[j]?=some x→jB s.heap TO a b c→TO≠it →
   (∀h',IsTupIter h' it t (j+1)→h'.get? TO=some {cls:=.type "tuple",data:=.seq ((#[a,b,c]:Array Value).setIfInBounds n x)}→(∀c o,c≠it→c≠TO→s.heap.get? c=some o→h'.get? c=some o)→h'.objs.size=s.heap.objs.size→Q (.yield (none,())) {s with heap:=h'}) →
   wpAny (model prog w) A (f (.ref it,n) (none,())) Q E s) →
  (∀{s:Shared} {Q:ForInStep (Option Fin×PUnit)→Shared→Prop} {E:Value→Shared→Prop} {n j:Nat} {it t:Addr} {u:Array Value},A.handled=none→IsTupIter s.heap it t j→IsTup s.heap t u→u[j]?=none→IsZip s.heap z TI TO .ellipsis→it≠z →
   (∀h' e,(∀c o,c≠z→c≠it→s.heap.get? c=some o→h'.get? c=some o)→(∃o,h'.get? e=some o∧o.cls=.type "StopIteration")→E (.ref e) {s with heap:=h'}) →
   wpAny (model prog w) A (f (.ref it,n) (none,())) Q E s) →
  (∀{s:Shared} {Q:Fin→Shared→Prop} {E:Value→Shared→Prop} {x y v:Value},IsZip s.heap z TI TO .ellipsis→jB s.heap TO x y v →
   (∀h',IsZip h' z TI TO (rawInt s.heap.objs.size)→jB h' s.heap.objs.size x y v→(∀c o,c≠z→s.heap.get? c=some o→h'.get? c=some o)→Q (.done (.ret (.ref s.heap.objs.size))) {s with heap:=h'}) →
   wpAny (model prog w) A (k (none,())) Q E s)→Pe prog w A z TI TO i1 i2 i3
theorem Hj(prog:Program)(w:World)(A:Around)(z TI TO i1 i2 i3:Addr):Pe prog w A z TI TO i1 i2 i3:=by
 refine .mk ?_ ?_ (λ{s Q E} hz hTI h=>?_) (λ{s Q E n j it t u x a b c} hit ht hx hT ne h=>?_) (λ{s Q E n j it t u} hh hit ht hx hz ne h=>?_) (λ{s Q E x y v} hz hT h=>?_)
 rotate_left 2
 ·show wpAny _ _ (field (.ref z) 2 >>= _) _ _ _
  refine wpAny_bind (wpAny_field hz rfl (x:=.bool false) rfl ?_)
  refine wpAny_bind (wpAny_field hz rfl (x:=.ref TI) rfl ?_)
  refine wpAny_bind (wpAny_seqItems hTI rfl ?_)
  refine wpAny_bind ?_
  unfold Builtin.SmallTypes.ownedTupleIsFree
  refine wpAny_bind (wpAny_field hz rfl (x:=.none) rfl (wpAny_pure ?_))
  refine wpAny_bind (wpAny_rule ?_)
  refine wpAny_bind (wpAny_field hz rfl (x:=.ref TO) rfl ?_)
  refine wpAny_bind (wpAny_setField_rec hz (by simp) λp1 hz1 s1=>?_)
  refine wpAny_bind ?_
  exact h p1 hz1 s1
 ·refine wpAny_bind (wpAny_onRaise ?_)
  show wpAny _ _ (Builtin.SmallTypes.nextOf (.ref it) >>= _) _ _ _
  refine wpAny_bind (uL hit ht hx λp2 q2 s2=>wpAny_pure ?_)
  have e2:=s2.extBut _ _ ne hT
  refine wpAny_bind (wpAny_seqItems e2 rfl ?_)
  refine wpAny_bind (BC e2 λp3 e3 s3=>?_)
  exact wpAny_bind (wpAny_letGo (wpAny_pure (h _ (kR q2 λo e=>s3.extBut _ _ ne.symm e) e3 (λc o n1 n2 e=>s3.extBut _ _ n2 (s2.extBut _ _ n1 e)) (s3.1.trans s2.1))))
 ·refine wpAny_bind (wpAny_onRaise ?_)
  show wpAny _ _ (Builtin.SmallTypes.nextOf (.ref it) >>= _) _ _ _
  refine wpAny_bind (wG hh hit ht hx λp2 e s2 he=>?_)
  have hz2:IsZip p2 z TI TO .ellipsis:=s2 _ _ ne.symm hz
  exact he.elim λoe he=>wpAny_setField_rec hz2 (by simp) λp3 ξ s3=>h p3 e (λc o n1 n2 x=>s3.extBut _ _ n1 (s2 _ _ n2 x)) ⟨oe,s3.extBut _ _ (λx=>by have:=he.1;subst x;rw[hz2] at this;rw[←Option.some.inj this] at he;exact absurd he.2 (by simp)) he.1,he.2⟩
 ·refine wpAny_bind (wpAny_seqItems hT rfl ?_)
  refine wpAny_bind (wpAny_newTuple ?_)
  refine wpAny_bind ?_
  unfold Builtin.SmallTypes.ownedTupleHandOut
  have hz8:IsZip (s.heap.push {cls:=.type "tuple",data:=.seq #[x,y,v]}) z TI TO .ellipsis:=aR _ hz
  refine wpAny_bind (wpAny_setField_rec hz8 (by simp) λp9 hz9 s9=>?_)
  replace hz9:IsZip p9 z TI TO (rawInt s.heap.objs.size):=hz9
  refine wpAny_setField_rec hz9 (by simp) λp10 hz10 s10=>?_
  have hne:s.heap.objs.size≠z:=cP (cY hz)
  exact wpAny_pure (h p10 hz10 (s10.extBut _ _ hne (s9.extBut _ _ hne (aW _ rfl))) λc o n e=>s10.extBut _ _ n (s9.extBut _ _ n (aR _ e)))
theorem Jd{z TI TO i1 i2 i3 t1 t2 t3:Addr}{j:Nat}{u1 u2 u3:Array Value}{x y v a b c:Value}{Q:Value→Shared→Prop}(D:Tri z TI TO i1 i2 i3 t1 t2 t3)(hz:IsZip s.heap z TI TO .none)(hTI:jB s.heap TI (.ref i1) (.ref i2) (.ref i3))(hTO:jB s.heap TO a b c)(h1:IsTupIter s.heap i1 t1 j)(h2:IsTupIter s.heap i2 t2 j)(h3:IsTupIter s.heap i3 t3 j)(g1:IsTup s.heap t1 u1)(g2:IsTup s.heap t2 u2)(g3:IsTup s.heap t3 u3)(hx:u1[j]?=some x)(hy:u2[j]?=some y)(hv:u3[j]?=some v)(hQ:∀h',IsZip h' z TI TO (rawInt s.heap.objs.size)→jB h' TO x y v→IsTupIter h' i1 t1 (j+1)→IsTupIter h' i2 t2 (j+1)→IsTupIter h' i3 t3 (j+1)→jB h' s.heap.objs.size x y v →
   (∀c o,c≠z→c≠TO→c≠i1→c≠i2→c≠i3→s.heap.get? c=some o→h'.get? c=some o)→Q (.ref s.heap.objs.size) {s with heap:=h'}) :
  wpAny (model prog w) A (Builtin.«zip.__next__» ⟨[.ref z],[]⟩) (λfin s'=>∃v,fin=.done (.ret v)∧Q v s') E s:=(Hj prog w A z TI TO i1 i2 i3).casesOn λf k hd it ξ tl=>by
 refine hd hz hTI λp1 hz1 s1=>?_
 have k1:∀c o,c≠z→s.heap.get? c=some o→p1.get? c=some o:=λc o n e=>s1.extBut _ _ n e
 rw[List.forIn_cons]
 refine wpAny_bind (it (kR h1 λo e=>k1 _ o D.a3 e) (vW g1 λo e=>k1 _ o D.t1z e) hx (k1 _ _ D.a2 hTO) D.c1 λp3 q2 e3 k3 n3=>?_)
 replace e3:jB p3 TO x b c:=e3
 have K3:∀c o,c≠z→c≠i1→c≠TO→s.heap.get? c=some o→p3.get? c=some o:=λc o n1 n2 n3 e=>k3 c o n2 n3 (k1 c o n1 e)
 show wpAny _ _ (forIn [(Value.ref i2,1),(.ref i3,2)] (none,()) f) _ _ _
 rw[List.forIn_cons]
 refine wpAny_bind (it (kR h2 λo e=>K3 _ o D.a4 D.d1.symm D.c2.symm e) (vW g2 λo e=>K3 _ o D.t2z D.t21 D.t2O e) hy e3 D.c2 λp5 q4 e5 k5 n5=>?_)
 replace e5:jB p5 TO x y c:=e5
 have K5:∀c o,c≠z→c≠i1→c≠TO→c≠i2→s.heap.get? c=some o→p5.get? c=some o:=λc o n1 n2 n3 n4 e=>k5 c o n4 n3 (K3 c o n1 n2 n3 e)
 show wpAny _ _ (forIn [(Value.ref i3,2)] (none,()) f) _ _ _
 rw[List.forIn_cons]
 refine wpAny_bind (it (kR h3 λo e=>K5 _ o D.a5 D.d2.symm D.c3.symm D.d3.symm e) (vW g3 λo e=>K5 _ o D.t3z D.t31 D.t3O D.t32 e) hv e5 D.c3 λp7 q6 e7 k7 n7=>?_)
 replace e7:jB p7 TO x y v:=e7
 have K7:∀c o,c≠z→c≠TO→c≠i1→c≠i2→c≠i3→s.heap.get? c=some o→p7.get? c=some o:=λc o n1 n3 n2 n4 n5 e=>k7 c o n5 n3 (K5 c o n1 n2 n3 n4 e)
 refine wpAny_pure (tl (k7 _ _ D.a5.symm D.a2.symm (k5 _ _ D.a4.symm D.a2.symm (k3 _ _ D.a3.symm D.a2.symm hz1))) e7 λp10 hz10 hT up=>?_)
 have hsz:p7.objs.size=s.heap.objs.size:=n7.trans (n5.trans (n3.trans s1.1))
 refine⟨_,rfl,?_⟩
 show Q (.ref p7.objs.size) _
 rw[hsz] at hz10 hT ⊢
 exact hQ p10 hz10 (up _ _ D.a2 e7) (kR q2 λo e=>up _ o D.a3 (k7 _ o D.d2 D.c1.symm (k5 _ o D.d1 D.c1.symm e))) (kR q4 λo e=>up _ o D.a4 (k7 _ o D.d3 D.c2.symm e)) (kR q6 λo e=>up _ o D.a5 e) hT λc o n1 n2 n3 n4 n5 e=>up c o n1 (K7 c o n1 n2 n3 n4 n5 e)
theorem LZ{z TI TO i1 i2 i3 t1 t2 t3:Addr}{j:Nat}{u1:Array Value}{Q:Fin→Shared→Prop}(hh:A.handled=none)(D:Tri z TI TO i1 i2 i3 t1 t2 t3)(hz:IsZip s.heap z TI TO .none)(hTI:jB s.heap TI (.ref i1) (.ref i2) (.ref i3))(h1:IsTupIter s.heap i1 t1 j)(g1:IsTup s.heap t1 u1)(hx:u1[j]?=none)(hE:∀h' e,(∀c o,c≠z→c≠i1→s.heap.get? c=some o→h'.get? c=some o)→(∃o,h'.get? e=some o∧o.cls=.type "StopIteration")→E (.ref e) {s with heap:=h'}) :
  wpAny (model prog w) A (Builtin.«zip.__next__» ⟨[.ref z],[]⟩) Q E s:=(Hj prog w A z TI TO i1 i2 i3).casesOn λf k hd ξ en ξ=>by
 refine hd hz hTI λp1 hz1 s1=>?_
 rw[List.forIn_cons]
 exact wpAny_bind (en hh (kR h1 λo e=>s1.extBut _ _ D.a3 e) (vW g1 λo e=>s1.extBut _ _ D.t1z e) hx hz1 D.a3 λh' e kp he=>hE h' e (λc o n1 n2 x=>kp c o n1 n2 (s1.extBut _ _ n1 x)) he)
theorem AD{z TI TO i1 i2 i3 t1 t2 t3:Addr}{j:Nat}{u1 u2 u3:Array Value}{x y v a b c:Value}{Q:Option Value→Shared→Prop}(D:Tri z TI TO i1 i2 i3 t1 t2 t3)(hz:IsZip s.heap z TI TO .none)(hTI:jB s.heap TI (.ref i1) (.ref i2) (.ref i3))(hTO:jB s.heap TO a b c)(h1:IsTupIter s.heap i1 t1 j)(h2:IsTupIter s.heap i2 t2 j)(h3:IsTupIter s.heap i3 t3 j)(g1:IsTup s.heap t1 u1)(g2:IsTup s.heap t2 u2)(g3:IsTup s.heap t3 u3)(hx:u1[j]?=some x)(hy:u2[j]?=some y)(hv:u3[j]?=some v)(hQ:∀h',IsZip h' z TI TO (rawInt s.heap.objs.size)→jB h' TO x y v→IsTupIter h' i1 t1 (j+1)→IsTupIter h' i2 t2 (j+1)→IsTupIter h' i3 t3 (j+1)→jB h' s.heap.objs.size x y v →
   (∀c o,c≠z→c≠TO→c≠i1→c≠i2→c≠i3→s.heap.get? c=some o→h'.get? c=some o)→Q (some (.ref s.heap.objs.size)) {s with heap:=h'}) :
  wpAny (model prog w) A (pyNext (.ref z)) Q E s:=by
 have hT:s.TypeIs (.ref z) "zip":=⟨_,hz,rfl⟩
 unfold pyNext
 exact wpAny_bind (wpAny_attempt (wpAny_callSpecial?_slot (name:=Str.ofString "__next__") hT F.slot_zip_next (wpAny_call_entry F.slot_zip_next hT F.entry_zip_next
  (Jd D hz hTI hTO h1 h2 h3 g1 g2 g3 hx hy hv λh' a1 a2 a3 a4 a5 a6 a7=>wpAny_pure (hQ h' a1 a2 a3 a4 a5 a6 a7)) (F.args_zip_next_1 _))))
theorem BF{z TI TO i1 i2 i3 t1 t2 t3:Addr}{j:Nat}{u1:Array Value}{Q:Option Value→Shared→Prop}(hh:A.handled=none)(D:Tri z TI TO i1 i2 i3 t1 t2 t3)(hz:IsZip s.heap z TI TO .none)(hTI:jB s.heap TI (.ref i1) (.ref i2) (.ref i3))(h1:IsTupIter s.heap i1 t1 j)(g1:IsTup s.heap t1 u1)(hx:u1[j]?=none)(hQ:∀h',(∀c o,c≠z→c≠i1→s.heap.get? c=some o→h'.get? c=some o)→Q none {s with heap:=h'}):wpAny (model prog w) A (pyNext (.ref z)) Q E s:=by
 have hT:s.TypeIs (.ref z) "zip":=⟨_,hz,rfl⟩
 unfold pyNext
 refine wpAny_bind (wpAny_attempt (wpAny_callSpecial?_slot (name:=Str.ofString "__next__") hT F.slot_zip_next (wpAny_call_entry F.slot_zip_next hT F.entry_zip_next
  (LZ hh D hz hTI h1 g1 hx λh' e hk he=>?_) (F.args_zip_next_1 _))))
 obtain⟨o,ho,hc⟩:=he
 refine wpAny_bind (wpAny_isInstance (T:="StopIteration") (b:=true) ⟨o,ho,hc⟩ isSubtype_stop ?_)
 exact wpAny_pure (hQ _ hk)
theorem zH(a b c:Value):checkTypeCall "zip" ⟨[a,b,c],[]⟩=pure ():=by kernel_rfl
theorem BH(a b c:Value):checkBuiltinCall "zip.__new__" ⟨[.type "zip",a,b,c],[]⟩=pure ():=by kernel_rfl
theorem tZ(a b c d:Value):argsOk "object.__init__" ⟨[a,b,c,d],[]⟩:=by
 unfold argsOk;rw[signature?_of (id:="object.__init__") (n:=['_','_','t','i','n','i','_','_']) (o:=['t','c','e','j','b','o']) (by kernel_rfl) F.owner_object];kernel_rfl
noncomputable abbrev zt1(h:Heap)(t1:Addr):Heap:=h.push {cls:=.type "tuple_iterator",data:=.fields #[.ref t1,.int 0 0]}
noncomputable abbrev zt2(h:Heap)(t1 t2:Addr):Heap:=zt1 (zt1 h t1) t2
noncomputable abbrev zt3(h:Heap)(t1 t2 t3:Addr):Heap:=zt1 (zt2 h t1 t2) t3
noncomputable abbrev zt4(h:Heap)(t1 t2 t3:Addr):Heap:=(zt3 h t1 t2 t3).push {cls:=.type "tuple",data:=.seq #[.ref h.objs.size,.ref (zt1 h t1).objs.size,.ref (zt2 h t1 t2).objs.size]}
noncomputable abbrev zt5(h:Heap)(t1 t2 t3:Addr):Heap:=(zt4 h t1 t2 t3).push {cls:=.type "tuple",data:=.seq #[.none,.none,.none]}
noncomputable abbrev zt6(h:Heap)(t1 t2 t3:Addr):Heap:=(zt5 h t1 t2 t3).push {cls:=.type "zip",data:=.fields #[.none,.bool false,.bool false,.ref (zt3 h t1 t2 t3).objs.size,.ref (zt4 h t1 t2 t3).objs.size]}
set_option maxHeartbeats 2000000 in
theorem Gd(t1 t2 t3:Addr)(xs ys zs:Array Value) :
  Meets (Builtin.«zip.__new__» ⟨[.type "zip",.ref t1,.ref t2,.ref t3],[]⟩) (λξ R s=>IsTup s.heap t1 xs∧IsTup s.heap t2 ys∧IsTup s.heap t3 zs ∧
   R (.ok (.ret (.ref (zt5 s.heap t1 t2 t3).objs.size))) {s with heap:=zt6 s.heap t1 t2 t3}):=
 .of_wp λprog w A R s h=>by
  obtain⟨hp,g,d,tk,os⟩:=s;obtain⟨hl1,hl2,hl3,h⟩:=h
  have hsub:=sub_zip
  have hL1:IsTup (Shared.heap ⟨hp,g,d,tk,os⟩) t1 xs:=hl1
  have hL2:IsTup (Shared.heap ⟨zt1 hp t1,g,d,tk,os⟩) t2 ys:=vW hl2 λo e=>aR _ e
  have hL3:IsTup (Shared.heap ⟨zt2 hp t1 t2,g,d,tk,os⟩) t3 zs:=vW hl3 λo e=>aR _ (aR _ e)
  wp_walk using iter_tuple hL1,iter_tuple hL2,iter_tuple hL3
  exact⟨_,rfl,h⟩
theorem LH{t1 t2 t3:Addr}{xs ys zs:Array Value}{Q:Value→Shared→Prop}(g1:IsTup s.heap t1 xs)(g2:IsTup s.heap t2 ys)(g3:IsTup s.heap t3 zs)(h:∀h',IsZip h' (s.heap.objs.size+5) (s.heap.objs.size+3) (s.heap.objs.size+4) .none→jB h' (s.heap.objs.size+3) (.ref s.heap.objs.size) (.ref (s.heap.objs.size+1)) (.ref (s.heap.objs.size+2)) →
   jB h' (s.heap.objs.size+4) .none .none .none→IsTupIter h' s.heap.objs.size t1 0→IsTupIter h' (s.heap.objs.size+1) t2 0→IsTupIter h' (s.heap.objs.size+2) t3 0 →
   (∀c o,s.heap.get? c=some o→h'.get? c=some o)→Q (.ref (s.heap.objs.size+5)) {s with heap:=h'}) :
  wpAny (model prog w) A (call (.type "zip") [.ref t1,.ref t2,.ref t3]) Q E s:=by
 refine callType_new F.called_zip (by decide) (zH _ _ _) (BH _ _ _) (λobj=>tZ obj _ _ _) F.entry_zip_new (Gd t1 t2 t3 xs ys zs) ⟨g1,g2,g3,?_⟩
 have z1:(zt1 s.heap t1).objs.size=s.heap.objs.size+1:=dX ..
 have z2:(zt2 s.heap t1 t2).objs.size=s.heap.objs.size+2:=by rw[dX,z1]
 have z3:(zt3 s.heap t1 t2 t3).objs.size=s.heap.objs.size+3:=by rw[dX,z2]
 have z4:(zt4 s.heap t1 t2 t3).objs.size=s.heap.objs.size+4:=by rw[dX,z3]
 have z5:(zt5 s.heap t1 t2 t3).objs.size=s.heap.objs.size+5:=by rw[dX,z4]
 have up {h:Heap} {o o':Obj} {b:Addr} (e:h.get? b=some o):(h.push o').get? b=some o:=aR _ e
 have y6:(zt6 s.heap t1 t2 t3).get? (zt5 s.heap t1 t2 t3).objs.size=some _:=aW _ rfl
 have y5:(zt6 s.heap t1 t2 t3).get? (zt4 s.heap t1 t2 t3).objs.size=some _:=up (aW _ rfl)
 have y4:(zt6 s.heap t1 t2 t3).get? (zt3 s.heap t1 t2 t3).objs.size=some _:=up (up (aW _ rfl))
 have y3:(zt6 s.heap t1 t2 t3).get? (zt2 s.heap t1 t2).objs.size=some _:=up (up (up (aW _ rfl)))
 have y2:(zt6 s.heap t1 t2 t3).get? (zt1 s.heap t1).objs.size=some _:=up (up (up (up (aW _ rfl))))
 have y1:(zt6 s.heap t1 t2 t3).get? s.heap.objs.size=some _:=up (up (up (up (up (aW _ rfl)))))
 show _∧_
 rw[z3,z4,z5] at y6
 rw[z4] at y5
 rw[z1,z2,z3] at y4
 rw[z2] at y3
 rw[z1] at y2
 rw[z5]
 exact⟨⟨_,y6,rfl⟩,h _ y6 y4 y5 ⟨_,y1,rfl,rfl⟩ ⟨_,y2,rfl,rfl⟩ ⟨_,y3,rfl,rfl⟩ λc o x=>up (up (up (up (up (up x)))))⟩
end
end
section
open PySem PySem.W PyProof.Rows
set_option genInjectivity false
inductive It where | tup (ds:List V) (j:Nat) | cell (n i:Nat) | rng (x:Int) (k:Nat) | zip (d1 d2 d3:List V) (j:Nat)
inductive Df(X:Pk)(φ:List Addr)(h:Heap)(I:Addr)(ds:List V)(j:Nat):Prop
 |mk (t:Addr) (n:Nat) (vs:List Value):IsTupIter h I t j→h.get? t=some (lV vs.toArray n)→¬X.ban t→fU X φ h vs ds→Df X φ h I ds j
inductive Au(X:Pk)(φ:List Addr)(h:Heap)(I:Addr)(d1 d2 d3:List V)(j:Nat):List Addr→Prop
 |mk (TI TO i1 i2 i3:Addr) (x y z:Value):IsZip h I TI TO .none→jB h TI (.ref i1) (.ref i2) (.ref i3)→jB h TO x y z→Df X φ h i1 d1 j→Df X φ h i2 d2 j→Df X φ h i3 d3 j→X.ban TI→X.ban TO →
   [I,TI,TO,i1,i2,i3].Nodup→d1.length=d2.length∧d1.length=d3.length→Au X φ h I d1 d2 d3 j [I,TI,TO,i1,i2,i3]
noncomputable def mF(X:Pk)(φ:List Addr)(h:Heap)(I:Addr)(js:List Addr)(it:It):Prop:=It.casesOn it
 (λds j=>js=[I]∧Df X φ h I ds j) (λn i=>js=[I]∧∃a,h.IsListIter I a i∧φ[n]?=some a) (λx k=>js=[I]∧IsRangeIter h I x k 1) (λd1 d2 d3 j=>Au X φ h I d1 d2 d3 j js)
inductive Fv(X:Pk)(φ:List Addr)(h:Heap)(a:Addr):Prop
 |mk (o:Obj):a∉φ→X.h0.get? a=none→h.get? a=some o→(X.ban a∨∀its n,o≠lV its n)→(∀C dx,o≠instObj C dx)→(∀v,o.data≠.cell v)→Fv X φ h a
noncomputable def jM(X:Pk)(φ:List Addr)(h:Heap)(js:List Addr):Prop:=∀a,a∈js→Fv X φ h a
theorem yJ.ownJ{X:Pk}{φ h a}{o:Obj}(m:yJ o)(h1:a∉φ)(h2:X.h0.get? a=none)(h3:h.get? a=some o)(h4:∀v,o.data≠.cell v):Fv X φ h a:=⟨o,h1,h2,h3,.inr m.tup,m.inst,h4⟩
section
variable{X:Pk}{S:Addr→Prop}{φ φ':List Addr}{w w':W}{s s':Shared}{h h':Heap}{I:Addr}{js:List Addr}{it:It}
theorem Df.keeps{ds:List V}{j:Nat}(k:kJ X φ φ' h h')(kp:∀o,h.get? I=some o→h'.get? I=some o)(x:Df X φ h I ds j):Df X φ' h' I ds j:=x.casesOn λt n vs h1 h2 h3 h4=>⟨t,n,vs,kR h1 kp,k.tup _ _ _ h2 h3,h3,h4.keeps k⟩
theorem mF.keeps(k:kJ X φ φ' h h')(kp:∀a,a∈js→∀o,h.get? a=some o→h'.get? a=some o)(x:mF X φ h I js it):mF X φ' h' I js it:=by
 cases it with
 |tup ds j=>obtain⟨rfl,x⟩:=x;exact⟨rfl,x.keeps k (kp _ (aG.mpr rfl))⟩
 |cell n i=>obtain⟨rfl,a,x,y⟩:=x;exact⟨rfl,a,x.at (kp _ (aG.mpr rfl)),sC k.pre y⟩
 |rng y n=>obtain⟨rfl,x⟩:=x;exact⟨rfl,kp _ (aG.mpr rfl) _ x⟩
 |zip d1 d2 d3 j=>cases x with
  |mk TI TO i1 i2 i3 x y z h1 h2 h3 h4 h5 h6 q1 q2 nd ll =>
   exact Au.mk TI TO i1 i2 i3 x y z (kp _ (by simp) _ h1) (kp _ (by simp) _ h2) (kp _ (by simp) _ h3) (h4.keeps k (kp _ (by simp))) (h5.keeps k (kp _ (by simp))) (h6.keeps k (kp _ (by simp))) q1 q2 nd ll
theorem jM.keep(O:jM X φ h js)(kp:∀a,a∈js→∀o,h.get? a=some o→h'.get? a=some o)(km:∀a,(h.get? a).isSome=true→a∈φ'→a∈φ):jM X φ' h' js:=λa ha=>(O a ha).casesOn λo h1 h2 h3 h4 h5 h6=>⟨o,λq=>h1 (km a (iB h3) q),h2,kp a ha _ h3,h4,h5,h6⟩
theorem mF.step{env:Env}{sc:Scope}{ns:List Str}{ρ:List V}(R:fW X S φ env sc ns ρ s.heap)(C:Cst X φ w s)(T:fR X S φ w s φ' w' s')(O:jM X φ s.heap js)(hJ:∀a,a∈js→¬S a)(x:mF X φ s.heap I js it):mF X φ' s'.heap I js it∧jM X φ' s'.heap js:=
 have kp:∀a,a∈js→∀o,s.heap.get? a=some o→s'.heap.get? a=some o:=λa ha o e=>(O a ha).casesOn λξ h1 ξ ξ ξ ξ ξ=>T.keep a o e (gQ h1) (hJ a ha)
 ⟨x.keeps (T.keptO R C) kp,O.keep kp λa e q=>T.mem_back q e⟩
theorem jM.kept(O:jM X φ h js)(hk:∀b o,¬b∈js→h.get? b=some o→h'.get? b=some o):kJ X φ φ h h' where
 pre:=cA _
 tup a n its e hb:=hk a _ (λq=>(O a q).casesOn λo ξ ξ e' h4 ξ ξ=>by rw[e] at e';exact h4.elim hb λz=>z _ _ (Option.some.inj e').symm) e
 inst a C dx e:=hk a _ (λq=>(O a q).casesOn λo ξ ξ e' ξ h5 ξ=>by rw[e] at e';exact h5 _ _ (Option.some.inj e').symm) e
theorem fR.iter(C:Cst X φ w s)(O:jM X φ s.heap js)(hk:∀b o,¬b∈js→s.heap.get? b=some o→s'.heap.get? b=some o)(al:∀b,b∈js→(s'.heap.get? b).isSome=true)(hg:s'.gens=s.gens)(ho:s'.os=s.os) :
  fR X (λa=>a∈js) φ w s φ w s':=by
 have K:=O.kept hk
 have ala:∀b,(s.heap.get? b).isSome=true→(s'.heap.get? b).isSome=true:=λb hb=>by
  by_cases q:b∈js
  ·exact al b q
  ·exact lX (λo=>hk b o q) hb
 have nb:∀b,b∈φ→¬b∈js:=λb m q=>(O b q).casesOn λξ h1 ξ ξ ξ ξ ξ=>h1 m
 exact⟨cA _,C.len,⟨C.len,C.nd,λn c h=>(C.cell n c h).elim λb x=>⟨b,x.1,x.2.keeps K λo=>hk b o (nb b (aF x.1))⟩,λb hb=>ala b (C.alive b hb),C.fresh,
  λb o e=>hk b o (λq=>(O b q).casesOn λξ ξ h2 ξ ξ ξ ξ=>by rw[h2] at e;cases e) (C.base b o e),hg.trans C.gens,ho.trans C.os,λb hb=>ala b (C.ban b hb)⟩,λb o e hl hns=>hk b o hns e,λn b e h=>AB e h,ala,.refl w⟩
theorem fW.iter{env:Env}{sc:Scope}{ns:List Str}{ρ:List V}(R:fW X S φ env sc ns ρ h)(O:jM X φ h js)(hJ:∀a,a∈js→¬S a)(hk:∀b o,¬b∈js→h.get? b=some o→h'.get? b=some o):fW X S φ env sc ns ρ h':=
 R.keeps (O.kept hk) (λa o q=>hk a o λz=>hJ a z q) (λa v x=>by
  obtain⟨o,e,hd⟩:=x
  exact⟨o,hk _ _ (λq=>(O _ q).casesOn λo' ξ ξ e' ξ ξ h6=>by rw[e] at e';exact h6 v (by rw[←Option.some.inj e'];exact hd)) e,hd⟩) λa ξ q=>q
end
noncomputable def kU(it:It)(w:W):Option (Option (V×It)):=It.casesOn it (λds j=>some (ds[j]?.map λd=>(d,.tup ds (j+1)))) (λn i=>(w.get n).bind λc=>(pJ c).map λds=>ds[i]?.map λd=>(d,.cell n (i+1)))
 (λx k=>some (Nat.casesOn k none λk=>some (.int x,.rng (x+1) k))) λd1 d2 d3 j=>some (d1[j]?.bind λa=>d2[j]?.bind λb=>d3[j]?.map λc=>(.tup [a,b,c],.zip d1 d2 d3 (j+1)))
noncomputable def mK(it:It):Bool:=It.casesOn (motive:=λξ=>Bool) it (λξ ξ=>false) (λξ ξ=>false) (λξ ξ=>false) λξ ξ ξ ξ=>true
noncomputable def lI(t:Tg):Bool:=Tg.casesOn (motive_1:=λξ=>Bool) t (λξ=>false) (λξ ξ=>false) (λξ ξ=>false) λξ=>true
noncomputable def xI(it:It)(t:Tg):Bool:=!mK it||lI t
structure tF(X:Pk)(s:Shared)(js:List Addr)(s1:Shared):Prop where
 gens:s1.gens=s.gens
 os:s1.os=s.os
 kept:∀b o,¬b∈js→s.heap.get? b=some o→s1.heap.get? b=some o
structure rU(X:Pk)(φ:List Addr)(w:W)(s:Shared)(I:Addr)(js:List Addr)(d:V)(it':It)(v:Value)(s2:Shared):Prop where
 rep:Rep X φ s2.heap v d
 at_:mF X φ s2.heap I js it'
 own:jM X φ s2.heap js
 step:fR X (λa=>a∈js) φ w s φ w s2
 kept:∀b o,¬b∈js→s.heap.get? b=some o→s2.heap.get? b=some o
noncomputable def NxP(X:Pk)(φ:List Addr)(w:W)(s:Shared)(A:Around)(pt:Expr)(I:Addr)(js:List Addr)(res:Option (V×It))(x:Option Value)(s1:Shared):Prop:=
 Option.casesOn x (res=none∧tF X s js s1) λv=>WP X A (letOwnedTupleGo pt (.ref I) v) (λξ s2=>∃d it',res=some (d,it')∧rU X φ w s I js d it' v s2) s1
noncomputable def Nx(X:Pk)(r:Nat)(it:It)(w:W)(res:Option (V×It)):Prop:=
 ∀φ s A I js pt sc ns t,mF X φ s.heap I js it→jM X φ s.heap js→Cst X φ w s→lM r A→TrT sc ns pt t→xI it t=true→WP X A (pyNext (.ref I)) (NxP X φ w s A pt I js res) s
theorem DR{pt:Expr}{sc:Scope}{ns:List Str}{t:Tg}(h:TrT sc ns pt t){X:Pk}{A:Around}{s:Shared}{I:Addr}{v:Value}{Q:Unit→Shared→Prop}{o:Obj}(ho:s.heap.get? I=some o)(hc:o.cls=.type "tuple_iterator"∨o.cls=.type "list_iterator"∨o.cls=.type "range_iterator")(q:Q () s) :
  WP X A (letOwnedTupleGo pt (.ref I) v) Q s:=by
 cases t with
 |var i=>exact(iL (Hy h)).casesOn λξ ξ ξ=>wpAny_pure q
 |attr o f=>exact(kZ (Cf h)).casesOn λξ ξ ξ ξ=>wpAny_pure q
 |idx o i=>exact(jQ (Hz h)).casesOn λξ ξ ξ ξ=>wpAny_pure q
 |tup ts =>
  refine(kC (BY h)).casesOn λξ ξ ξ ξ=>?_
  unfold letOwnedTupleGo
  cases v<;>first | exact wpAny_pure q | skip
  refine wpAny_bind (wpAny_load ho ?_)
  have hc:∃n,o.cls=.type n∧(["enumerate","zip","dict_itemiterator","dict_reverseitemiterator","odict_iterator","itertools.zip_longest","itertools.pairwise"].contains n)=false:=by
   rcases hc with hc | hc | hc<;>exact⟨_,hc,by decide⟩
  obtain⟨n,hc,hn⟩:=hc
  rw[hc]
  refine wpAny_of_eq (a:=()) ?_ q
  generalize o.data=d
  cases d<;>first | rfl | exact if_neg (by rw[hn];exact bC)
section
variable{X:Pk}{r:Nat}{w:W}{φ:List Addr}{s:Shared}{I:Addr}
theorem tF.one{js:List Addr}(hm:I∈js){h':Heap}{tk:Nat}(hk:∀b o,b≠I→s.heap.get? b=some o→h'.get? b=some o):tF X s js {s with heap:=h',toks:=tk}:=⟨rfl,rfl,λb o q e=>hk b o (λz=>q (by rw[z];exact hm)) e⟩
theorem rU.one(C:Cst X φ w s)(O:jM X φ s.heap [I]){h':Heap}{tk:Nat}(hs:Heap.SameBut I s.heap h'){o:Obj}(ho:h'.get? I=some o){vs:Array Value}(hd:o.data=.fields vs){d:V}{it':It}{v:Value}(h1:kJ X φ φ s.heap h'→(∀b o,b≠I→s.heap.get? b=some o→h'.get? b=some o)→Rep X φ h' v d∧mF X φ h' I [I] it'):rU X φ w s I [I] d it' v {s with heap:=h',toks:=tk}:=by
 have hk:∀b o,b≠I→s.heap.get? b=some o→h'.get? b=some o:=λb o hb e=>by rw[hs.2 b hb];exact e
 have hk':∀b o,¬b∈[I]→s.heap.get? b=some o→h'.get? b=some o:=λb o hb=>hk b o λq=>hb (aG.mpr q)
 have q:=h1 (O.kept hk') hk
 refine⟨q.1,q.2,λa ha=>?_,fR.iter (s':={s with heap:=h',toks:=tk}) C O hk' (λb hb=>by rw[aG.mp hb];exact iB ho) rfl rfl,hk'⟩
 refine(O a ha).casesOn λξ h1 h2 ξ ξ ξ ξ=>(oU hd).ownJ h1 h2 (by rw[aG.mp ha];exact ho) λv e=>by rw[hd] at e;cases e
theorem Nx.tup{ds:List V}{j:Nat}:Nx X r (.tup ds j) w (ds[j]?.map λd=>(d,.tup ds (j+1))):=λφ s A I js pt sc ns t x O C M ht hz=>by
 obtain⟨rfl,x⟩:=x
 refine x.casesOn λtp n vs h1 h2 h3 h4=>?_
 have hT:IsTup s.heap tp vs.toArray:=⟨_,h2,rfl,n,rfl⟩
 rcases fU.get0 _ _ h4 j with⟨v,d,e1,e2,rv⟩ | ⟨e1,e2⟩
 ·rw[e2]
  refine next_tuple_item h1 hT (x:=v) (by simpa using e1) λh' hit hs=>?_
  obtain⟨o,ho,hc,hd⟩:=id hit
  exact DR ht (s:={s with heap:=h'}) ho (.inl hc) ⟨d,_,rfl,rU.one (tk:=s.toks) C O hs ho hd λK hk=>⟨rv.keeps K,rfl,tp,n,vs,hit,K.tup _ _ _ h2 h3,h3,h4.keeps K⟩⟩
 ·rw[e2]
  exact next_tuple_end M.hand h1 hT (by simpa using e1) λh' hk=>⟨rfl,tF.one (tk:=s.toks) (aG.mpr rfl) λb o q=>hk b o q⟩
theorem Nx.cell{n i:Nat}{ds:List V}(hn:w.get n=some (.list ds)):Nx X r (.cell n i) w (ds[i]?.map λd=>(d,.cell n (i+1))):=λφ s A I js pt sc ns t x O C M ht hz=>by
 obtain⟨rfl,a,x,y⟩:=x
 refine(gL C hn y).casesOn λk vs ho rs hl=>?_
 have hL:s.heap.IsList a vs.toArray:=⟨_,ho,rfl,k,rfl⟩
 rcases fU.get0 _ _ rs i with⟨v,d,e1,e2,rv⟩ | ⟨e1,e2⟩
 ·rw[e2]
  refine wpAny_pyNext_list_item x hL (x:=v) (by simpa using e1) λh' hit hs=>?_
  obtain⟨o,ho,hc,hd⟩:=id hit
  exact DR ht (s:={s with heap:=h'}) ho (.inr (.inl hc)) ⟨d,_,rfl,rU.one (tk:=s.toks) C O hs ho hd λK hk=>⟨rv.keeps K,rfl,a,hit,y⟩⟩
 ·rw[e2]
  exact wpAny_pyNext_list_end M.hand x hL (by simpa using e1) λh' hk=>⟨rfl,tF.one (tk:=s.toks) (aG.mpr rfl) λb o q=>hk b o q⟩
theorem Nx.rng{x:Int}{k:Nat}:Nx X r (.rng x k) w (Nat.casesOn k none λk=>some (.int x,.rng (x+1) k)):=λφ s A I js pt sc ns t x O C M ht hz=>by
 obtain⟨rfl,h1⟩:=x
 cases k with
 |zero=>exact wpAny_pyNext_range_end M.hand h1 (by simp) λh' hk=>⟨rfl,tF.one (tk:=s.toks) (aG.mpr rfl) λb o q=>hk b o q⟩
 |succ k =>
  refine wpAny_pyNext_range_item h1 (Int.natCast_pos.mpr (fM k)) λh' hit hs=>?_
  refine DR ht (s:={s with heap:=h',toks:=s.toks+1}) hit (.inr (.inr rfl)) ⟨_,_,rfl,rU.one (tk:=s.toks+1) C O hs hit rfl λK hk=>⟨.int _ _,rfl,?_⟩⟩
  rw[show(((k+1:Nat):Int)-1)=(k:Int) from by rw[Int.natCast_succ,Int.add_sub_cancel]] at hit
  exact hit
inductive Pd(X:Pk)(φ:List Addr)(h:Heap)(I:Addr)(d1 d2 d3:List V)(j:Nat):List Addr→Prop
 |mk (TI TO i1 i2 i3 t1 t2 t3:Addr) (n1 n2 n3:Nat) (u1 u2 u3:List Value) (x y z:Value):Tri I TI TO i1 i2 i3 t1 t2 t3→IsZip h I TI TO .none→jB h TI (.ref i1) (.ref i2) (.ref i3)→jB h TO x y z→IsTupIter h i1 t1 j→IsTupIter h i2 t2 j→IsTupIter h i3 t3 j →
   h.get? t1=some (lV u1.toArray n1)→h.get? t2=some (lV u2.toArray n2)→h.get? t3=some (lV u3.toArray n3)→¬X.ban t1→¬X.ban t2→¬X.ban t3→fU X φ h u1 d1→fU X φ h u2 d2→fU X φ h u3 d3→Pd X φ h I d1 d2 d3 j [I,TI,TO,i1,i2,i3]
theorem Au.pre{φ h I d1 d2 d3 j js}(x:Au X φ h I d1 d2 d3 j js):Pd X φ h I d1 d2 d3 j js:=x.casesOn λTI TO i1 i2 i3 x y z h1 h2 h3 h4 h5 h6 q1 q2 nd ll =>
 h4.casesOn λt1 n1 u1 a1 a2 a3 a4=>h5.casesOn λt2 n2 u2 b1 b2 b3 b4=>h6.casesOn λt3 n3 u3 c1 c2 c3 c4=>by
 have nt:∀{t n u},h.get? t=some (lV u n)→¬X.ban t→t≠I∧t≠TO∧t≠i1∧t≠i2∧t≠i3:=λ{t n u} e hb=>by
  have ni:∀{i t' j},IsTupIter h i t' j→t≠i:=λx q=>by obtain⟨o,e',c,_⟩:=x;rw[←q,e] at e';cases e';simp at c
  exact⟨λq=>by rw[q,h1] at e;simp at e,λq=>hb (q▸q2),ni a1,ni b1,ni c1⟩
 obtain⟨v1,v2,v3,v4,v5⟩:=nt a2 a3
 obtain⟨w1,w2,w3,w4,w5⟩:=nt b2 b3
 obtain⟨y1,y2,y3,y4,y5⟩:=nt c2 c3
 simp only[cZ,bJ,eH,or_false,not_or] at nd
 obtain⟨⟨n1',n2',n3',n4',n5'⟩,⟨n6,n7,n8,n9⟩,⟨n10,n11,n12⟩,⟨n13,n14⟩,n15,_⟩:=nd
 exact⟨TI,TO,i1,i2,i3,t1,t2,t3,n1,n2,n3,u1,u2,u3,x,y,z,⟨Ne.symm n1',Ne.symm n2',Ne.symm n3',Ne.symm n4',Ne.symm n5',n6,n7,n8,n9,n10,n11,n12,n13,n14,n15,v1,v2,v3,v4,v5,w1,w2,w3,w4,w5,y1,y2,y3,y4,y5⟩,
  h1,h2,h3,a1,b1,c1,a2,b2,c2,a3,b3,c3,a4,b4,c4⟩
theorem Au.facts{φ h I d1 d2 d3 j js}(x:Au X φ h I d1 d2 d3 j js):(d1.length=d2.length∧d1.length=d3.length)∧∀TI TO i1 i2 i3,js=[I,TI,TO,i1,i2,i3]→X.ban TI∧X.ban TO∧js.Nodup:=x.casesOn λTI TO i1 i2 i3 x y z h1 h2 h3 h4 h5 h6 q1 q2 nd ll=>⟨ll,λξ ξ ξ ξ ξ e=>by
 cases e;exact⟨q1,q2,nd⟩⟩
theorem QE{φ:List Addr}{h h'':Heap}{TI TO i1 i2 i3 t1 t2 t3:Addr}{j:Nat}{x y z:Value}{q:Value}(O:jM X φ h [I,TI,TO,i1,i2,i3])(b1:X.ban TI)(b2:X.ban TO)(y1:IsZip h'' I TI TO q)(eTI:jB h'' TI (.ref i1) (.ref i2) (.ref i3))(eTO:jB h'' TO x y z)(e4:IsTupIter h'' i1 t1 j)(e5:IsTupIter h'' i2 t2 j)(e6:IsTupIter h'' i3 t3 j):jM X φ h'' [I,TI,TO,i1,i2,i3]:=λa ha=>(O a ha).casesOn λξ o1 o2 ξ ξ ξ ξ=>by
 have fo:∀{o:Obj} {vs},h''.get? a=some o→o.data=.fields vs→Fv X φ h'' a:=λe d=>(oU d).ownJ o1 o2 e λv e'=>by rw[d] at e';cases e'
 have io:∀{i t},a=i→IsTupIter h'' i t j→Fv X φ h'' a:=λq x=>by obtain⟨o,e,_,d⟩:=x;exact fo (by rw[q];exact e) d
 have to:∀{i p},a=i→h''.get? i=some (lV p 0)→X.ban i→Fv X φ h'' a:=λq e b=>⟨_,o1,o2,by rw[q];exact e,.inl (by rw[q];exact b),λξ ξ e=>(by cases e),λξ e=>(by cases e)⟩
 simp only[bJ,eH,or_false] at ha
 rcases ha with q | q | q | q | q | q
 ·exact fo (by rw[q];exact y1) rfl
 ·exact to q eTI b1
 ·exact to q eTO b2
 ·exact io q e4
 ·exact io q e5
 ·exact io q e6
theorem Nx.zip{d1 d2 d3:List V}{j:Nat}:Nx X r (.zip d1 d2 d3 j) w (d1[j]?.bind λa=>d2[j]?.bind λb=>d3[j]?.map λc=>(.tup [a,b,c],.zip d1 d2 d3 (j+1))):=λφ s A I js pt sc ns t x O C M ht hz=>by
 cases t with
 |var=>cases hz
 |attr=>cases hz
 |idx=>cases hz
 |tup ts =>
 refine(kC (BY ht)).casesOn λes k p hts=>?_
 obtain⟨ll,bn⟩:=Au.facts x
 refine(Au.pre x).casesOn (motive:=λjs ξ=>jM X φ s.heap js→(∀TI TO i1 i2 i3,js=[I,TI,TO,i1,i2,i3]→X.ban TI∧X.ban TO∧js.Nodup)→WP X A (pyNext (.ref I)) (NxP X φ w s A (.Tuple es k p) I js _) s) (λTI TO i1 i2 i3 t1 t2 t3 n1 n2 n3 u1 u2 u3 x y z D h1 h2 h3 h4 h5 h6 g1 g2 g3 b1 b2 b3 r1 r2 r3 O bn=>?_) O bn
 obtain⟨q1,q2,nd⟩:=bn _ _ _ _ _ rfl
 have T1:IsTup s.heap t1 u1.toArray:=⟨_,g1,rfl,n1,rfl⟩
 rcases fU.get0 _ _ r1 j with⟨x',dx,hx,ex,rx⟩ | ⟨e1,e2⟩
 ·have hj:j<d1.length:=(aB.mp ex).1
  have ey:=aC (l:=d2) (ll.1▸hj)
  have ez:=aC (l:=d3) (ll.2▸hj)
  obtain⟨y',hy,ry⟩:=r2.get ey
  obtain⟨z',hv,rz⟩:=r3.get ez
  rw[ex,ey,ez]
  refine AD D h1 h2 h3 h4 h5 h6 T1 ⟨_,g2,rfl,n2,rfl⟩ ⟨_,g3,rfl,n3,rfl⟩ (by simpa using hx) (by simpa using hy) (by simpa using hv) λh' z1 z2 z3 z4 z5 z6 hk=>?_
  refine wpAny_letOwnedTupleGo_zip z1 λh'' y1 ys=>?_
  have k2:∀b o,¬b∈[I,TI,TO,i1,i2,i3]→s.heap.get? b=some o→h''.get? b=some o:=λb o hb e=>by
   simp only[bJ,eH,or_false,not_or] at hb
   exact ys.extBut _ _ hb.1 (hk b o hb.1 hb.2.2.1 hb.2.2.2.1 hb.2.2.2.2.1 hb.2.2.2.2.2 e)
  have K:=O.kept k2
  have eTI:jB h'' TI (.ref i1) (.ref i2) (.ref i3):=ys.extBut _ _ D.a1 (hk _ _ D.a1 D.b1 D.b2 D.b3 D.b4 h2)
  have eTO:jB h'' TO x' y' z':=ys.extBut _ _ D.a2 z2
  have e4:IsTupIter h'' i1 t1 (j+1):=kR z3 λo e=>ys.extBut _ _ D.a3 e
  have e5:IsTupIter h'' i2 t2 (j+1):=kR z4 λo e=>ys.extBut _ _ D.a4 e
  have e6:IsTupIter h'' i3 t3 (j+1):=kR z5 λo e=>ys.extBut _ _ D.a5 e
  have O':=QE O q1 q2 y1 eTI eTO e4 e5 e6
  have hT:jB h'' s.heap.objs.size x' y' z':=ys.extBut _ _ (cP (cY h1)) z6
  exact⟨_,_,rfl,.tup (vs:=[x',y',z']) hT (.cons (rx.keeps K) (.cons (ry.keeps K) (.cons (rz.keeps K) .nil))) (C.notBan (iA _)) (show 3≤lim by decide),
   Au.mk TI TO i1 i2 i3 x' y' z' y1 eTI eTO ⟨t1,n1,u1,e4,K.tup _ _ _ g1 b1,b1,r1.keeps K⟩ ⟨t2,n2,u2,e5,K.tup _ _ _ g2 b2,b2,r2.keeps K⟩ ⟨t3,n3,u3,e6,K.tup _ _ _ g3 b3,b3,r3.keeps K⟩ q1 q2 nd ll,
   O',fR.iter (s':={s with heap:=h''}) C O k2 (λb hb=>(O' b hb).casesOn λo ξ ξ e ξ ξ ξ=>iB e) rfl rfl,k2⟩
 ·rw[e2]
  exact BF M.hand D h1 h2 h4 T1 (by simpa using e1) λh' hk=>⟨rfl,rfl,rfl,λb o hb e=>hk b o (λq=>hb (by simp[q])) (λq=>hb (by simp[q])) e⟩
theorem Nx.ok{it:It}{res:Option (V×It)}(h:kU it w=some res):Nx X r it w res:=by
 cases it with
 |tup ds j=>rw[←Option.some.inj h];exact .tup
 |cell n i =>
  obtain⟨c,h1,h⟩:=aH.mp (show((w.get n).bind λc=>(pJ c).map λds=>ds[i]?.map λd=>(d,It.cell n (i+1)))=some res from h)
  obtain⟨ds,h2,h⟩:=bE.mp h
  rw[←h];exact .cell (by rw[h1,sG h2])
 |rng x k=>rw[←Option.some.inj h];exact .rng
 |zip d1 d2 d3 j=>rw[←Option.some.inj h];exact .zip
end
theorem FW{X:Pk}{A:Around}{target:Expr}{it:Value}{body:List Stmt}{env:Env}{R:Result→Shared→Prop}{s:Shared}(h:wpAny (model P X.w) A (pyNext it) (λr s₁=>match r with
   |none=>R (.ok .next) s₁
   |some v=>wpAny (model P X.w) A (letOwnedTupleGo target it v) (λ_ s₁' =>
     wpAny (model P X.w) A (assign target env v) (λξ s₂=>wpAny (model P X.w) A (execs body env) (λf s₃=>match f with
      |.next | .cont=>codeAny (model P X.w) A (.forLoop target it body [] env) R s₃
      |.brk=>R (.ok .next) s₃
      |.ret v=>R (.ok (.ret v)) s₃) nor s₂) nor s₁') nor s₁) nor s):codeAny (model P X.w) A (.forLoop target it body [] env) R s:=by
 refine codeAny_of_tree ?_
 rw[show A.under (.forLoop target it body [] env)=A from Around.under_of_weight rfl]
 show wpAny _ A ((forTurn target it body [] env).onRaise (λx=>do noteFrame x env;theTreesLotGoes x)) _ _ s
 refine wpAny_noted ?_
 simp only[forTurn]
 refine wpAny_bind (wpAny_standAt (wpAny_bind (wpAny_onRaise (wpAny_mono h (λr s₁ h₁=>?_) λξ ξ h'=>h'.elim))))
 cases r with
 |none=>exact wpAny_pure ⟨rfl,codeAny_block (wpAny_execs_nil h₁)⟩
 |some v =>
  refine wpAny_bind (wpAny_mono h₁ (λξ s₁' h₁'=>?_) λξ ξ h'=>h'.elim)
  refine wpAny_bind (wpAny_mono h₁' (λξ s₂ h₂=>wpAny_bind (wpAny_mono h₂ (λf s₃ h₃=>?_) λξ ξ h'=>h'.elim)) λξ ξ h'=>h'.elim)
  cases f with
  |next=>exact wpAny_pure ⟨rfl,h₃⟩
  |cont=>exact wpAny_pure ⟨rfl,h₃⟩
  |brk=>exact wpAny_pure h₃
  |ret v=>exact wpAny_pure h₃
inductive Fw(X:Pk)(S:Addr→Prop)(js:List Addr)(env:Env)(sc:Scope)(ns:List Str)(φ0:List Addr)(w0:W)(s0:Shared)(ρ':List V)(o:Out)(w':W)(f:Flow)(s':Shared):Prop
 |mk (φ':List Addr) (s1:Shared):fR X (λa=>S a∨a∈js) φ0 w0 s0 φ' w' s1→fW X S φ' env sc ns ρ' s1.heap→lO X φ' s1.heap f o→jM X φ' s1.heap js→tF X s1 js s'→Fw X S js env sc ns φ0 w0 s0 ρ' o w' f s'
structure Pw(X:Pk)(r:Nat)(S:Addr→Prop)(js:List Addr)(I:Addr)(it:It)(env:Env)(sc:Scope)(ns:List Str)(φ0:List Addr)(w0:W)(s0:Shared)(φ:List Addr)(ρ:List V)(w:W)(s:Shared)(A:Around):Prop where
 T:fR X (λa=>S a∨a∈js) φ0 w0 s0 φ w s
 F:Fr X r S φ env sc ns ρ w s A
 J:∀a,a∈js→¬S a
 x:mF X φ s.heap I js it
 O:jM X φ s.heap js
noncomputable def vT(X:Pk)(r:Nat)(t:Tg)(b:Bk)(it:It)(ρ:List V)(w:W)(ρ':List V)(o:Out)(w':W):Prop:=
 ∀pt pb sc ns,TrT sc ns pt t→TrB sc ns pb b→∀S env φ0 w0 s0 φ s A I js,Pw X r S js I it env sc ns φ0 w0 s0 φ ρ w s A →
  codeAny (model P X.w) A (.forLoop pt (.ref I) pb [] env) (okR (Fw X S js env sc ns φ0 w0 s0 ρ' o w')) s
section
variable{X:Pk}{r:Nat}{ρ ρ1 ρ2 ρ3:List V}{w w1 w2 w3:W}
theorem Cy{φ:List Addr}{s:Shared}{A:Around}{pt:Expr}{I:Addr}{js:List Addr}{d:V}{it':It}{v:Value}{s1:Shared}(h:NxP X φ w s A pt I js (some (d,it')) (some v) s1):WP X A (letOwnedTupleGo pt (.ref I) v) (λξ s2=>rU X φ w s I js d it' v s2) s1:=
 WP.mono h λξ s2 q=>q.elim λd' q=>q.elim λit2 q=>by
  have e:=q.1
  cases e
  exact q.2
theorem Cz{φ:List Addr}{s:Shared}{A:Around}{pt:Expr}{I:Addr}{js:List Addr}{v:Value}{s1:Shared}(h:NxP X φ w s A pt I js none (some v) s1){Q:Unit→Shared→Prop}:WP X A (letOwnedTupleGo pt (.ref I) v) Q s1:=
 WP.mono h λξ s2 q=>q.elim λd' q=>q.elim λit2 q=>nomatch q.1
theorem vT.stop{t:Tg}{b:Bk}{it:It}(hz:xI it t=true)(h:kU it w=some none):vT X r t b it ρ w ρ .go w:=λpt pb sc ns h1 h2 S env φ0 w0 s0 φ s A I js L =>
 FW ((Nx.ok (r:=r) h φ s A I js pt sc ns t L.x L.O L.F.C L.F.M h1 hz).mono λx s1 hx=>by
  cases x with
  |none=>exact Fw.mk φ s L.T L.F.R (show lO X φ s.heap .next .go from rfl) L.O hx.2
  |some v=>exact Cz hx)
theorem Bt{t:Tg}{b:Bk}{it it':It}{d:V}{o:Out}(hz:xI it t=true)(h:kU it w=some (some (d,it')))(ha:AsT X r t d ρ w ρ1 w1)(hb:Sts X r b ρ1 w1 ρ2 o w2){pt pb sc ns}(h1:TrT sc ns pt t)(h2:TrB sc ns pb b){S env φ0 w0 s0 φ s A I js}(L:Pw X r S js I it env sc ns φ0 w0 s0 φ ρ w s A){R:Result→Shared→Prop}(k:∀f φ4 s4,lO X φ4 s4.heap f o→Pw X r S js I it' env sc ns φ0 w0 s0 φ4 ρ2 w2 s4 A→match f with
   |.next | .cont=>codeAny (model P X.w) A (.forLoop pt (.ref I) pb [] env) R s4
   |.brk=>R (.ok .next) s4
   |.ret v=>R (.ok (.ret v)) s4):codeAny (model P X.w) A (.forLoop pt (.ref I) pb [] env) R s:=
 FW ((Nx.ok (r:=r) h φ s A I js pt sc ns t L.x L.O L.F.C L.F.M h1 hz).mono λx s1 hx=>by
  cases x with
  |none=>cases hx.1
  |some v =>
  refine(Cy hx).mono λξ s2 q=>?_
  have F2:Fr X r S φ env sc ns ρ w s2 A:=⟨L.F.R.iter L.O L.J q.kept,q.step.cst,L.F.M⟩
  refine ha.use h1 F2 q.rep λφ3 s3 T3 F3=>?_
  obtain⟨x3,O3⟩:=mF.step F2.R F2.C T3 q.own L.J q.at_
  refine hb.use h2 F3 λφ4 s4 f T4 O4 F4=>?_
  obtain⟨x4,OO4⟩:=mF.step F3.R F3.C T4 O3 L.J x3
  exact k f φ4 s4 O4 ⟨((L.T.trans (q.step.weak λa ha=>.inr ha)).trans (T3.weak λa ha=>.inl ha)).trans (T4.weak (S':=λa=>S a∨a∈js) λa ha=>.inl ha),F4,L.J,x4,OO4⟩)
theorem vT.go{t:Tg}{b:Bk}{it it':It}{d:V}{o:Out}(hz:xI it t=true)(h:kU it w=some (some (d,it')))(ha:AsT X r t d ρ w ρ1 w1)(hb:Sts X r b ρ1 w1 ρ2 .go w2)(hn:vT X r t b it' ρ2 w2 ρ3 o w3):vT X r t b it ρ w ρ3 o w3:=
 λpt pb sc ns h1 h2 S env φ0 w0 s0 φ s A I js L=>Bt hz h ha hb h1 h2 L λf φ4 s4 O4 L4=>by rw[O4.go];exact hn _ _ _ _ h1 h2 _ _ _ _ _ _ _ _ _ _ L4
theorem vT.ret{t:Tg}{b:Bk}{it it':It}{d v:V}(hz:xI it t=true)(h:kU it w=some (some (d,it')))(ha:AsT X r t d ρ w ρ1 w1)(hb:Sts X r b ρ1 w1 ρ2 (.ret v) w2):vT X r t b it ρ w ρ2 (.ret v) w2:=
 λpt pb sc ns h1 h2 S env φ0 w0 s0 φ s A I js L=>Bt hz h ha hb h1 h2 L λf φ4 s4 O4 L4=>O4.ret.casesOn λu q=>Fw.mk φ4 s4 L4.T L4.F.R (Dq.mk u q) L4.O ⟨rfl,rfl,λb o ξ e=>e⟩
end
end
section
open PySem PySem.W PyProof.Rows
set_option genInjectivity false
set_option maxRecDepth 4000
noncomputable def FO:Bk:=(.cons (.ret (.idx (.idx (.var 0) (.int 0)) (.int 0))) .nil)
noncomputable def xR:Bk:=(.cons (.ret (.idx (.idx (.var 0) (.neg (.int 1))) (.int 1))) .nil)
noncomputable def Iu:Bk:=(.cons (.ret (.call 4 (.cons (.comp1 (.bin .Add (.bin .Sub (.var 2) (.var 1)) (.int 1)) 2 (.of (.var 0)) .nil) .nil))) .nil)
noncomputable def uU:Bk:=(.cons (.fors (.tup (.cons (.var 2) (.cons (.var 3) .nil))) (.of (.var 0)) (.cons (.ite (.cmp (.var 1) .LtE (.var 3)) (.cons (.ret (.call 2 (.cons (.var 2) (.cons (.var 1) .nil)))) .nil) .nil) .nil)) (.cons (.ret .non) .nil))
noncomputable def Nr:Bk:=(.cons (.ret (.cmp (.call 13 (.cons (.var 0) (.cons (.var 1) .nil))) .Eq (.var 1))) .nil)
noncomputable def CC:Bk:=(.cons (.asg (.var 1) (.lst .nil)) (.cons (.fors (.tup (.cons (.var 2) (.cons (.var 3) .nil))) (.of (.var 0)) (.cons (.expr (.extR (.var 1) (.var 2) (.bin .Add (.var 3) (.int 1)))) .nil)) (.cons (.ret (.var 1)) .nil)))
noncomputable def FM:Bk:=(.cons (.ret (.call 6 (.cons (.comp1 (.tup (.cons (.var 2) (.cons (.call 3 (.cons (.var 3) (.cons (.var 1) .nil))) .nil))) 2 (.of (.var 0)) (.cons (.cmp (.var 2) .LtE (.var 1)) .nil)) .nil))) .nil)
noncomputable def AW:Bk:=(.cons (.ret (.call 6 (.cons (.comp1 (.tup (.cons (.call 2 (.cons (.var 2) (.cons (.var 1) .nil))) (.cons (.var 3) .nil))) 2 (.of (.var 0)) (.cons (.cmp (.var 3) .GtE (.var 1)) .nil)) .nil))) .nil)
noncomputable def AU:Bk:=(.cons (.ret (.bin .Add (.call 16 (.cons (.var 0) (.cons (.bin .Sub (.var 1) (.int 1)) .nil))) (.call 17 (.cons (.var 0) (.cons (.bin .Add (.var 1) (.int 1)) .nil))))) .nil)
noncomputable def Iv:Bk:=(.cons (.asg (.tup (.cons (.var 2) (.cons (.var 3) (.cons (.var 4) .nil)))) (.tup (.cons (.lst .nil) (.cons (.int 0) (.cons (.int 0) .nil))))) (.cons (.whl (.bop .And (.cons (.cmp (.var 3) .Lt (.call 0 (.cons (.var 0) .nil))) (.cons (.cmp (.var 4) .Lt (.call 0 (.cons (.var 1) .nil))) .nil))) (.cons (.asg (.tup (.cons (.var 5) (.cons (.var 6) .nil))) (.tup (.cons (.call 2 (.cons (.idx (.idx (.var 0) (.var 3)) (.int 0)) (.cons (.idx (.idx (.var 1) (.var 4)) (.int 0)) .nil))) (.cons (.call 3 (.cons (.idx (.idx (.var 0) (.var 3)) (.int 1)) (.cons (.idx (.idx (.var 1) (.var 4)) (.int 1)) .nil))) .nil)))) (.cons (.ite (.cmp (.var 5) .LtE (.var 6)) (.cons (.expr (.meth (.var 2) 0 (.cons (.tup (.cons (.var 5) (.cons (.var 6) .nil))) .nil))) .nil) .nil) (.cons (.ite (.cmp (.idx (.idx (.var 0) (.var 3)) (.int 1)) .Lt (.idx (.idx (.var 1) (.var 4)) (.int 1))) (.cons (.asg (.var 3) (.bin .Add (.var 3) (.int 1))) .nil) (.cons (.asg (.var 4) (.bin .Add (.var 4) (.int 1))) .nil)) .nil)))) (.cons (.ret (.call 6 (.cons (.var 2) .nil))) .nil)))
noncomputable def xP:Bk:=(.cons (.asg (.tup (.cons (.var 1) (.cons (.var 2) (.cons (.var 3) .nil)))) (.var 0)) (.cons (.ite (.cmp (.var 2) .Eq (.str 0)) (.cons (.ret (.tup (.cons (.var 1) (.cons (.str 1) (.cons (.bin .Add (.var 3) (.int 1)) .nil))))) .nil) .nil) (.cons (.ite (.cmp (.var 2) .Eq (.str 1)) (.cons (.ret (.tup (.cons (.var 1) (.cons (.str 0) (.cons (.bin .Sub (.var 3) (.int 1)) .nil))))) .nil) .nil) (.cons (.ret (.ite (.cmp (.var 2) .Eq (.str 2)) (.tup (.cons (.var 1) (.cons (.str 3) (.cons (.var 3) .nil)))) (.tup (.cons (.var 1) (.cons (.str 2) (.cons (.var 3) .nil)))))) .nil))))
noncomputable def CD:Bk:=(.cons (.asg (.tup (.cons (.var 2) (.cons (.var 3) .nil))) (.tup (.cons (.idx (.var 0) (.int 1)) (.cons (.idx (.var 0) (.int 2)) .nil)))) (.cons (.ite (.cmp (.var 2) .Eq (.str 0)) (.cons (.ret (.call 16 (.cons (.var 1) (.cons (.var 3) .nil)))) .nil) .nil) (.cons (.ite (.cmp (.var 2) .Eq (.str 1)) (.cons (.ret (.call 17 (.cons (.var 1) (.cons (.var 3) .nil)))) .nil) .nil) (.cons (.ret (.ite (.cmp (.var 2) .Eq (.str 2)) (.call 19 (.cons (.var 1) (.cons (.tup (.cons (.tup (.cons (.var 3) (.cons (.var 3) .nil))) .nil)) .nil))) (.call 18 (.cons (.var 1) (.cons (.var 3) .nil))))) .nil))))
noncomputable def AV:Bk:=(.cons (.asg (.var 2) (.call 21 (.cons (.var 0) (.cons (.var 1) .nil)))) (.cons (.ite (.cmp (.var 2) .Eq (.var 1)) (.cons (.ret (.int 1)) .nil) .nil) (.cons (.ret (.ite (.cmp (.var 2) .Eq (.tup .nil)) (.neg (.int 1)) (.int 0))) .nil)))
noncomputable def xO:Bk:=(.cons (.asg (.tup (.cons (.var 2) (.cons (.var 3) .nil))) (.tup (.cons (.lst (.cons (.tup (.cons (.var 0) (.cons (.str 1) (.cons (.call 10 (.cons (.var 1) .nil)) .nil)))) (.cons (.tup (.cons (.var 0) (.cons (.str 0) (.cons (.call 11 (.cons (.var 1) .nil)) .nil)))) .nil))) (.cons (.bin .Sub (.call 10 (.cons (.var 1) .nil)) (.int 1)) .nil)))) (.cons (.fors (.tup (.cons (.var 4) (.cons (.var 5) .nil))) (.of (.var 1)) (.cons (.fors (.var 6) (.rng2 (.bin .Add (.var 3) (.int 1)) (.var 4)) (.cons (.expr (.meth (.var 2) 0 (.cons (.tup (.cons (.var 0) (.cons (.str 3) (.cons (.var 6) .nil)))) .nil))) .nil)) (.cons (.asg (.var 3) (.var 5)) .nil))) (.cons (.ret (.var 2)) .nil)))
noncomputable def uY:Bk:=(.cons (.asg (.var 2) (.bin .Mod (.idx (.var 0) (.int 0)) (.var 1))) (.cons (.asg (.idx (.var 0) (.int 0)) (.bin .FloorDiv (.idx (.var 0) (.int 0)) (.var 1))) (.cons (.ret (.var 2)) .nil)))
noncomputable def gV:Bk:=(.cons (.asg (.var 1) (.lst (.cons (.var 0) .nil))) (.cons (.asg (.var 2) (.bin .Add (.int 2) (.call 27 (.cons (.var 1) (.cons (.int 3) .nil))))) (.cons (.asg (.var 3) (.ite (.cmp (.var 2) .Lt (.int 4)) (.int 4) (.int 3))) (.cons (.asg (.var 4) (.lst .nil)) (.cons (.fors (.var 5) (.rng1 (.var 2)) (.cons (.asg (.var 6) (.bin .Add (.int 1) (.call 27 (.cons (.var 1) (.cons (.bin .Sub (.bin .Pow (.int 2) (.var 3)) (.int 1)) .nil))))) (.cons (.expr (.meth (.var 4) 0 (.cons (.comp1 (.var 14) 1 (.rng2 (.int 1) (.bin .Add (.var 3) (.int 1))) (.cons (.cmp (.bin .Mod (.bin .FloorDiv (.var 6) (.bin .Pow (.int 2) (.bin .Sub (.var 14) (.int 1)))) (.int 2)) .Eq (.int 1)) .nil)) .nil))) .nil))) (.cons (.asg (.tup (.cons (.var 8) (.cons (.var 9) (.cons (.var 10) .nil)))) (.tup (.cons (.lst .nil) (.cons (.lst .nil) (.cons (.lst .nil) .nil))))) (.cons (.fors (.var 11) (.rng1 (.bin .Add (.int 1) (.call 27 (.cons (.var 1) (.cons (.int 3) .nil))))) (.cons (.asg (.tup (.cons (.var 7) (.cons (.var 12) (.cons (.var 13) .nil)))) (.tup (.cons (.call 27 (.cons (.var 1) (.cons (.bin .Add (.var 3) (.int 2)) .nil))) (.cons (.call 27 (.cons (.var 1) (.cons (.int 3) .nil))) (.cons (.call 27 (.cons (.var 1) (.cons (.int 3) .nil))) .nil))))) (.cons (.ite (.cmp (.var 7) .NotIn (.var 8)) (.cons (.expr (.meth (.var 8) 0 (.cons (.var 7) .nil))) (.cons (.expr (.meth (.var 9) 0 (.cons (.var 12) .nil))) (.cons (.expr (.meth (.var 10) 0 (.cons (.bin .Add (.var 12) (.var 13)) .nil))) .nil))) .nil) .nil))) (.cons (.ret (.tup (.cons (.var 4) (.cons (.var 8) (.cons (.var 9) (.cons (.var 10) .nil)))))) .nil))))))))
noncomputable def tB:Bk:=(.cons (.asg (.var 1) (.lst (.cons (.tup .nil) .nil))) (.cons (.fors (.var 2) (.of (.var 0)) (.cons (.asg (.var 1) (.comp2 (.bin .Add (.var 3) (.tup (.cons (.var 4) .nil))) 1 (.of (.var 1)) 1 (.of (.var 2)))) .nil)) (.cons (.ret (.var 1)) .nil)))
noncomputable def uX:Bk:=(.cons (.fors (.var 4) (.rng1 (.call 0 (.cons (.var 1) .nil))) (.cons (.asg (.var 5) (.call 0 (.cons (.comp1 (.var 6) 1 (.of (.var 0)) (.cons (.cmp (.var 6) .Eq (.idx (.var 1) (.var 4))) .nil)) .nil))) (.cons (.ite (.bop .Or (.cons (.cmp (.var 5) .Lt (.idx (.var 2) (.var 4))) (.cons (.cmp (.var 5) .Gt (.idx (.var 3) (.var 4))) .nil))) (.cons (.ret (.boo false)) .nil) .nil) .nil))) (.cons (.ret (.boo true)) .nil))
noncomputable def xQ:Bk:=(.cons (.asg (.tup (.cons (.var 2) (.cons (.var 3) .nil))) (.tup (.cons (.idx (.var 0) (.int 1)) (.cons (.idx (.var 0) (.int 2)) .nil)))) (.cons (.ite (.cmp (.var 2) .Eq (.str 0)) (.cons (.ret (.cmp (.var 1) .LtE (.var 3))) .nil) .nil) (.cons (.ite (.cmp (.var 2) .Eq (.str 1)) (.cons (.ret (.cmp (.var 1) .GtE (.var 3))) .nil) .nil) (.cons (.ret (.cmp (.cmp (.var 1) .Eq (.var 3)) .Eq (.cmp (.var 2) .Eq (.str 2)))) .nil))))
noncomputable def rF:Bk:=(.cons (.ret (.cmp (.comp1 (.var 3) 1 (.of (.var 0)) (.cons (.not (.val (.call 31 (.cons (.var 3) (.cons (.idx (.var 1) (.bin .Sub (.idx (.var 3) (.int 0)) (.var 2))) .nil))))) .nil)) .Eq (.lst .nil))) .nil)
noncomputable def qO:Bk:=(.cons (.fors (.var 3) (.of (.var 0)) (.cons (.ite (.cmp (.comp1 (.var 4) 1 (.of (.idx (.var 1) (.bin .Sub (.idx (.var 3) (.int 0)) (.var 2)))) (.cons (.not (.val (.call 31 (.cons (.var 3) (.cons (.var 4) .nil))))) .nil)) .NotEq (.lst .nil)) (.cons (.ret (.boo false)) .nil) .nil) .nil)) (.cons (.ret (.boo true)) .nil))
noncomputable def uW:Bk:=(.cons (.ret (.comp1 (.comp2 (.var 5) 2 (.of (.meth (.var 0) 7 (.cons (.var 2) .nil))) 1 (.rng2 (.var 3) (.bin .Add (.var 4) (.int 1)))) 1 (.of (.attr (.var 1) 9)) .nil)) .nil)
noncomputable def tA:Bk:=(.cons (.ret (.comp1 (.var 2) 1 (.of (.var 0)) (.cons (.cmp (.comp1 (.var 3) 1 (.rng1 (.call 0 (.cons (.var 2) .nil))) (.cons (.cmp (.idx (.var 2) (.var 3)) .NotIn (.idx (.var 1) (.var 3))) .nil)) .Eq (.lst .nil)) .nil))) .nil)
noncomputable def iV:Bk:=(.cons (.asg (.var 5) (.comp1 (.call 7 (.cons (.var 11) .nil)) 1 (.of (.var 2)) .nil)) (.cons (.fors (.tup (.cons (.var 6) (.cons (.var 7) (.cons (.var 8) (.cons (.var 9) (.cons (.var 10) .nil)))))) (.of (.sfrom (.attr (.var 0) 2) (.var 1))) (.cons (.ite (.bop .Or (.cons (.cmp (.var 9) .Is .non) (.cons (.cmp (.idx (.var 8) (.int 0)) .NotEq (.var 6)) (.cons (.not (.val (.call 33 (.cons (.var 9) (.cons (.var 5) (.cons (.var 4) .nil)))))) .nil)))) (.cons (.ret .non) .nil) .nil) (.cons (.ite (.cmp (.comp1 (.var 11) 1 (.of (.var 3)) (.cons (.bop .And (.cons (.not (.val (.call 31 (.cons (.var 8) (.cons (.idx (.var 11) (.bin .Sub (.var 6) (.var 4))) .nil))))) (.cons (.val (.call 32 (.cons (.var 9) (.cons (.var 11) (.cons (.var 4) .nil))))) .nil))) .nil)) .NotEq (.lst .nil)) (.cons (.ret .non) .nil) .nil) (.cons (.asg (.idx (.var 5) (.bin .Sub (.var 6) (.var 4))) (.comp1 (.var 11) 1 (.of (.idx (.var 5) (.bin .Sub (.var 6) (.var 4)))) (.cons (.val (.call 31 (.cons (.var 8) (.cons (.var 11) .nil)))) .nil))) .nil)))) (.cons (.ret (.var 5)) .nil)))
noncomputable def gI:Bk:=(.cons (.asg (.tup (.cons (.var 4) (.cons (.var 5) .nil))) (.tup (.cons (.call 34 (.cons (.var 0) (.cons (.var 1) .nil))) (.cons (.call 0 (.cons (.attr (.var 0) 2) .nil)) .nil)))) (.cons (.asg (.var 6) (.call 35 (.cons (.var 2) (.cons (.var 4) .nil)))) (.cons (.asg (.var 7) (.meth (.var 1) 16 (.cons (.var 0) .nil))) (.cons (.asg (.var 8) (.call 34 (.cons (.var 0) (.cons (.var 1) .nil)))) (.cons (.ite (.bop .Or (.cons (.cmp (.call 36 (.cons (.var 0) (.cons (.var 5) (.cons (.var 4) (.cons (.var 2) (.cons (.var 3) .nil)))))) .NotEq (.var 8)) (.cons (.cmp (.var 7) .IsNot (.cmp (.var 6) .NotEq (.lst .nil))) .nil))) (.cons (.ret (.boo false)) .nil) .nil) (.cons (.ite (.not (.val (.var 7))) (.cons (.ite (.bop .Or (.cons (.not (.val (.attr (.var 0) 6))) (.cons (.not (.val (.call 33 (.cons (.attr (.var 0) 7) (.cons (.var 8) (.cons (.var 3) .nil)))))) .nil))) (.cons (.ret (.boo false)) .nil) .nil) (.cons (.ret (.cmp (.comp1 (.var 10) 1 (.of (.var 2)) (.cons (.val (.call 32 (.cons (.attr (.var 0) 7) (.cons (.var 10) (.cons (.var 3) .nil))))) .nil)) .Eq (.lst .nil))) .nil)) .nil) (.cons (.asg (.var 9) (.comp1 (.srtSet (.comp1 (.idx (.var 11) (.var 10)) 1 (.of (.var 6)) .nil)) 1 (.rng1 (.call 0 (.cons (.var 4) .nil))) .nil)) (.cons (.ite (.bop .Or (.cons (.cmp (.var 8) .NotEq (.var 9)) (.cons (.val (.attr (.var 0) 6)) .nil))) (.cons (.ret (.boo false)) .nil) .nil) (.cons (.asg (.var 5) (.call 0 (.cons (.attr (.var 0) 2) .nil))) (.cons (.ret (.and2 (.cmp (.meth (.var 1) 16 (.cons (.var 0) .nil)) .Is (.boo true)) (.cmp (.call 0 (.cons (.attr (.var 0) 2) .nil)) .Eq (.var 5)))) .nil))))))))))
noncomputable def uV:Bk:=(.cons (.asg (.tup (.cons (.var 1) (.cons (.var 2) .nil))) (.tup (.cons (.call 24 .nil) (.cons (.lst .nil) .nil)))) (.cons (.expr (.meth (.var 1) 6 (.cons (.tup (.cons (.tup (.cons (.int 0) (.cons (.int 7) .nil))) .nil)) .nil))) (.cons (.fors (.var 3) (.of (.var 0)) (.cons (.asg (.var 4) (.lst .nil)) (.cons (.fors (.var 5) (.of (.var 3)) (.cons (.ite (.bop .And (.cons (.cmp (.var 4) .NotEq (.lst .nil)) (.cons (.cmp (.idx (.idx (.var 4) (.neg (.int 1))) (.int 1)) .Eq (.bin .Sub (.var 5) (.int 1))) .nil))) (.cons (.asg (.idx (.var 4) (.neg (.int 1))) (.tup (.cons (.idx (.idx (.var 4) (.neg (.int 1))) (.int 0)) (.cons (.var 5) .nil)))) .nil) (.cons (.expr (.meth (.var 4) 0 (.cons (.tup (.cons (.var 5) (.cons (.var 5) .nil))) .nil))) .nil)) .nil)) (.cons (.expr (.meth (.var 2) 0 (.cons (.meth (.var 1) 6 (.cons (.call 6 (.cons (.var 4) .nil)) .nil)) .nil))) .nil)))) (.cons (.ret (.tup (.cons (.var 1) (.cons (.var 2) .nil)))) .nil))))
noncomputable def iH:Bk:=(.cons (.asg (.tup (.cons (.var 3) (.cons (.var 4) .nil))) (.call 38 (.cons (.var 0) .nil))) (.cons (.asg (.var 5) (.call 26 (.cons (.call 6 (.cons (.var 4) .nil)) (.cons (.idx (.var 1) (.int 0)) (.cons (.idx (.var 1) (.int 1)) (.cons (.idx (.var 1) (.int 2)) .nil)))))) (.cons (.fors (.var 6) (.of (.var 2)) (.cons (.ite (.not (.val (.meth (.var 3) 13 (.cons (.var 6) .nil)))) (.cons (.ret .non) .nil) .nil) .nil)) (.cons (.ret (.ite (.val (.meth (.var 5) 16 (.cons (.var 3) .nil))) (.call 34 (.cons (.var 3) (.cons (.var 5) .nil))) .non)) .nil))))
noncomputable def jY:Bk:=(.cons (.asg (.var 1) (.sto (.var 0) (.int 6))) (.cons (.asg (.tup (.cons (.var 2) (.cons (.var 3) (.cons (.var 4) (.cons (.var 5) .nil))))) (.call 28 (.cons (.ite (.cmp (.call 0 (.cons (.var 1) .nil)) .Gt (.int 0)) (.idx (.var 1) (.int 0)) (.int 33029413)) .nil))) (.cons (.asg (.var 6) (.tup (.cons (.call 6 (.cons (.var 3) .nil)) (.cons (.call 6 (.cons (.var 4) .nil)) (.cons (.call 6 (.cons (.var 5) .nil)) .nil))))) (.cons (.asg (.tup (.cons (.var 7) (.cons (.var 8) .nil))) (.call 38 (.cons (.var 2) .nil))) (.cons (.asg (.tup (.cons (.var 9) (.cons (.var 10) .nil))) (.tup (.cons (.call 26 (.cons (.call 6 (.cons (.var 8) .nil)) (.cons (.idx (.var 6) (.int 0)) (.cons (.idx (.var 6) (.int 1)) (.cons (.idx (.var 6) (.int 2)) .nil))))) (.cons (.idx (.var 8) (.int 0)) .nil)))) (.cons (.asg (.var 12) (.comp1 (.var 20) 1 (.of (.call 29 (.cons (.var 2) .nil))) (.cons (.val (.call 30 (.cons (.var 20) (.cons (.var 3) (.cons (.var 4) (.cons (.var 5) .nil)))))) .nil))) (.cons (.ite (.bop .Or (.cons (.cmp (.meth (.var 9) 18 .nil) .NotEq (.bin .Add (.tup (.cons (.str 4) (.cons (.call 6 (.cons (.var 8) .nil)) .nil))) (.var 6))) (.cons (.cmp (.attr (.var 9) 9) .NotEq (.call 6 (.cons (.var 8) .nil))) .nil))) (.cons (.ret (.boo false)) .nil) .nil) (.cons (.fors (.var 11) (.of (.sto (.call 29 (.cons (.var 2) .nil)) (.int 6))) (.cons (.ite (.cmp (.meth (.var 9) 17 (.cons (.var 11) .nil)) .IsNot (.cmp (.var 11) .In (.var 12))) (.cons (.ret (.boo false)) .nil) .nil) .nil)) (.cons (.ite (.not (.val (.call 37 (.cons (.var 7) (.cons (.var 9) (.cons (.var 12) (.cons (.var 10) .nil))))))) (.cons (.ret (.boo false)) .nil) .nil) (.cons (.asg (.tup (.cons (.var 13) (.cons (.var 14) .nil))) (.tup (.cons (.lst .nil) (.cons (.lst .nil) .nil)))) (.cons (.fors (.var 15) (.of (.ite (.cmp (.call 0 (.cons (.var 1) .nil)) .Gt (.int 1)) (.sfrom (.var 1) (.int 1)) (.lst (.cons (.int 128) (.cons (.int 228) (.cons (.int 3) (.cons (.int 160) .nil))))))) (.cons (.asg (.var 16) (.lst (.cons (.var 15) .nil))) (.cons (.ite (.bop .And (.cons (.cmp (.call 27 (.cons (.var 16) (.cons (.int 4) .nil))) .Eq (.int 3)) (.cons (.cmp (.var 13) .NotEq (.lst .nil)) .nil))) (.cons (.expr (.meth (.var 7) 2 (.cons (.int 1) .nil))) (.cons (.expr (.meth (.var 13) 2 .nil)) (.cons (.ite (.bop .Or (.cons (.cmp (.call 34 (.cons (.var 7) (.cons (.var 9) .nil))) .NotEq (.meth (.var 14) 2 .nil)) (.cons (.val (.attr (.var 7) 6)) .nil))) (.cons (.ret (.boo false)) .nil) .nil) .nil))) (.cons (.ite (.not (.val (.attr (.var 7) 6))) (.cons (.asg (.tup (.cons (.var 17) (.cons (.var 18) .nil))) (.tup (.cons (.idx (.var 8) (.call 27 (.cons (.var 16) (.cons (.call 0 (.cons (.var 8) .nil)) .nil)))) (.cons (.idx (.tup (.cons (.str 0) (.cons (.str 1) (.cons (.str 2) (.cons (.str 3) .nil))))) (.call 27 (.cons (.var 16) (.cons (.int 4) .nil)))) .nil)))) (.cons (.asg (.var 19) (.tup (.cons (.var 17) (.cons (.var 18) (.cons (.call 27 (.cons (.var 16) (.cons (.int 6) .nil))) .nil))))) (.cons (.ite (.cmp (.meth (.var 7) 10 (.cons (.var 19) .nil)) .Eq (.int 0)) (.cons (.expr (.meth (.var 14) 0 (.cons (.call 34 (.cons (.var 7) (.cons (.var 9) .nil))) .nil))) (.cons (.expr (.meth (.var 13) 0 (.cons (.var 19) .nil))) (.cons (.expr (.meth (.var 7) 15 .nil)) (.cons (.ite (.bop .Or (.cons (.not (.val (.meth (.var 7) 13 (.cons (.var 19) .nil)))) (.cons (.not (.val (.call 37 (.cons (.var 7) (.cons (.var 9) (.cons (.var 12) (.cons (.var 10) .nil))))))) .nil))) (.cons (.ret (.boo false)) .nil) .nil) .nil)))) .nil) .nil))) .nil) .nil)) .nil))) (.cons (.ret (.cmp (.call 39 (.cons (.var 2) (.cons (.var 6) (.cons (.var 13) .nil)))) .Eq (.ite (.val (.attr (.var 7) 6)) .non (.call 34 (.cons (.var 7) (.cons (.var 9) .nil)))))) .nil))))))))))))
noncomputable def oW:Bk:=(.cons (.asg (.attr (.var 0) 0) (.lst .nil)) (.cons (.asg (.attr (.var 0) 1) (.lst .nil)) (.cons (.asg (.attr (.var 0) 2) (.lst .nil)) (.cons (.asg (.attr (.var 0) 3) (.lst .nil)) (.cons (.asg (.attr (.var 0) 4) .dct0) (.cons (.asg (.attr (.var 0) 5) (.neg (.int 1))) (.cons (.asg (.attr (.var 0) 6) (.boo false)) (.cons (.asg (.attr (.var 0) 7) (.tup .nil)) .nil))))))))
noncomputable def pO:Bk:=(.cons (.expr (.meth (.attr (.var 0) 0) 0 (.cons (.var 1) .nil))) (.cons (.expr (.meth (.attr (.var 0) 1) 0 (.cons (.var 1) .nil))) (.cons (.ite (.cmp (.var 1) .Eq (.tup .nil)) (.cons (.expr (.meth (.var 0) 14 (.cons (.tup .nil) .nil))) .nil) .nil) (.cons (.ret (.bin .Sub (.call 0 (.cons (.attr (.var 0) 0) .nil)) (.int 1))) .nil))))
noncomputable def vB:Bk:=(.cons (.ret (.idx (.attr (.var 0) 0) (.var 1))) .nil)
noncomputable def vA:Bk:=(.cons (.ret (.call 14 (.cons (.idx (.attr (.var 0) 0) (.var 1)) (.cons (.var 2) .nil)))) .nil)
noncomputable def rG:Bk:=(.cons (.ret (.call 12 (.cons (.idx (.attr (.var 0) 0) (.var 1)) .nil))) .nil)
noncomputable def rH:Bk:=(.cons (.ret (.call 22 (.cons (.var 1) (.cons (.idx (.attr (.var 0) 0) (.idx (.var 1) (.int 0))) .nil)))) .nil)
noncomputable def rI:Bk:=(.cons (.asg (.var 4) (.idx (.var 1) (.int 0))) (.cons (.asg (.var 5) (.idx (.attr (.var 0) 0) (.var 4))) (.cons (.asg (.var 6) (.call 21 (.cons (.var 1) (.cons (.var 5) .nil)))) (.cons (.ite (.cmp (.var 6) .Eq (.tup .nil)) (.cons (.ret (.meth (.var 0) 14 (.cons (.bin .Add (.ite (.cmp (.var 2) .Is .non) (.tup .nil) (.var 2)) (.tup (.cons (.call 20 (.cons (.var 1) .nil)) .nil))) .nil))) .nil) .nil) (.cons (.ite (.cmp (.var 6) .Eq (.var 5)) (.cons (.ret (.boo true)) .nil) .nil) (.cons (.expr (.meth (.attr (.var 0) 2) 0 (.cons (.tup (.cons (.var 4) (.cons (.var 5) (.cons (.var 1) (.cons (.var 2) (.cons (.var 3) .nil)))))) .nil))) (.cons (.asg (.idx (.attr (.var 0) 0) (.var 4)) (.var 6)) (.cons (.asg (.idx (.attr (.var 0) 4) (.var 4)) (.boo true)) (.cons (.ret (.boo true)) .nil)))))))))
noncomputable def qP:Bk:=(.cons (.ret (.meth (.var 0) 11 (.cons (.var 1) (.cons (.call 6 (.cons (.var 2) .nil)) (.cons (.attr (.var 0) 5) .nil))))) .nil)
noncomputable def qQ:Bk:=(.cons (.ret (.meth (.var 0) 11 (.cons (.var 1) (.cons .non (.cons (.neg (.int 1)) .nil))))) .nil)
noncomputable def tD:Bk:=(.cons (.asg (.attr (.var 0) 6) (.boo true)) (.cons (.asg (.attr (.var 0) 7) (.call 6 (.cons (.var 1) .nil))) (.cons (.ret (.boo false)) .nil)))
noncomputable def tC:Bk:=(.cons (.expr (.meth (.attr (.var 0) 3) 0 (.cons (.call 0 (.cons (.attr (.var 0) 2) .nil)) .nil))) .nil)
noncomputable def uZ:Bk:=(.cons (.ite (.cmp (.var 1) .Lt (.int 1)) (.cons .retn .nil) .nil) (.cons (.asg (.var 2) (.idx (.attr (.var 0) 3) (.bin .Sub (.call 0 (.cons (.attr (.var 0) 3) .nil)) (.var 1)))) (.cons (.asg (.attr (.var 0) 3) (.sto (.attr (.var 0) 3) (.bin .Sub (.call 0 (.cons (.attr (.var 0) 3) .nil)) (.var 1)))) (.cons (.whl (.cmp (.call 0 (.cons (.attr (.var 0) 2) .nil)) .Gt (.var 2)) (.cons (.asg (.var 3) (.meth (.attr (.var 0) 2) 2 .nil)) (.cons (.asg (.idx (.attr (.var 0) 0) (.idx (.var 3) (.int 0))) (.idx (.var 3) (.int 1))) .nil))) (.cons (.asg (.attr (.var 0) 4) .dct0) (.cons (.asg (.attr (.var 0) 6) (.cmp (.tup .nil) .In (.attr (.var 0) 1))) (.cons (.asg (.attr (.var 0) 7) (.tup .nil)) .nil)))))))
noncomputable def qF:Bk:=(.cons (.asg (.attr (.var 0) 8) (.neg (.int 1))) (.cons (.asg (.attr (.var 0) 9) (.call 6 (.cons (.var 1) .nil))) (.cons (.asg (.attr (.var 0) 10) (.var 2)) .nil)))
noncomputable def mV:Bk:=(.cons (.asg (.attr (.var 0) 11) (.var 1)) (.cons (.asg (.attr (.var 0) 12) (.var 2)) (.cons (.asg (.attr (.var 0) 13) (.var 3)) (.cons (.asg (.attr (.var 0) 14) (.bin .Mult (.lst (.cons (.neg (.int 1)) .nil)) (.call 0 (.cons (.var 1) .nil)))) (.cons (.asg (.attr (.var 0) 15) (.bin .Mult (.lst (.cons (.int 0) .nil)) (.call 0 (.cons (.var 2) .nil)))) .nil)))))
noncomputable def lS:Bk:=(.cons (.ret (.comp1 (.var 2) 1 (.rng1 (.call 0 (.cons (.attr (.var 0) 14) .nil))) (.cons (.cmp (.idx (.attr (.var 0) 14) (.var 2)) .Eq (.var 1)) .nil))) .nil)
noncomputable def pP:Bk:=(.cons (.asg (.tup (.cons (.var 2) (.cons (.var 3) (.cons (.var 4) .nil)))) (.tup (.cons .dct0 (.cons (.lst .nil) (.cons (.int 0) .nil))))) (.cons (.fors (.var 5) (.of (.idx (.attr (.var 0) 11) (.var 1))) (.cons (.asg (.idx (.var 2) (.var 5)) (.tup (.cons (.var 1) (.cons (.neg (.int 1)) .nil)))) (.cons (.expr (.meth (.var 3) 0 (.cons (.var 5) .nil))) .nil))) (.cons (.whl (.cmp (.var 4) .Lt (.call 0 (.cons (.var 3) .nil))) (.cons (.asg (.tup (.cons (.var 6) (.cons (.var 4) .nil))) (.tup (.cons (.idx (.var 3) (.var 4)) (.cons (.bin .Add (.var 4) (.int 1)) .nil)))) (.cons (.ite (.cmp (.idx (.attr (.var 0) 15) (.var 6)) .Lt (.idx (.attr (.var 0) 13) (.var 6))) (.cons (.aug (.attr (.var 0) 15) (.var 6) .Add (.int 1)) (.cons (.whl (.cmp (.var 6) .GtE (.int 0)) (.cons (.asg (.tup (.cons (.var 7) (.cons (.var 8) .nil))) (.idx (.var 2) (.var 6))) (.cons (.asg (.idx (.attr (.var 0) 14) (.var 7)) (.var 6)) (.cons (.asg (.var 6) (.var 8)) .nil)))) (.cons (.ret .non) .nil))) .nil) (.cons (.fors (.var 7) (.of (.meth (.var 0) 19 (.cons (.var 6) .nil))) (.cons (.fors (.var 5) (.of (.idx (.attr (.var 0) 11) (.var 7))) (.cons (.ite (.cmp (.var 5) .NotIn (.var 2)) (.cons (.asg (.idx (.var 2) (.var 5)) (.tup (.cons (.var 7) (.cons (.var 6) .nil)))) (.cons (.expr (.meth (.var 3) 0 (.cons (.var 5) .nil))) .nil)) .nil) .nil)) .nil)) .nil)))) (.cons (.ret (.call 5 (.cons (.var 3) .nil))) .nil))))
noncomputable def qR:Bk:=(.cons (.asg (.tup (.cons (.var 2) (.cons (.var 3) (.cons (.var 4) .nil)))) (.tup (.cons (.dct1 (.var 1) (.tup (.cons (.neg (.int 1)) (.cons (.neg (.int 1)) .nil)))) (.cons (.lst (.cons (.var 1) .nil)) (.cons (.int 0) .nil))))) (.cons (.whl (.cmp (.var 4) .Lt (.call 0 (.cons (.var 3) .nil))) (.cons (.asg (.tup (.cons (.var 5) (.cons (.var 4) .nil))) (.tup (.cons (.idx (.var 3) (.var 4)) (.cons (.bin .Add (.var 4) (.int 1)) .nil)))) (.cons (.fors (.var 6) (.rng1 (.call 0 (.cons (.attr (.var 0) 14) .nil))) (.cons (.asg (.var 7) (.idx (.attr (.var 0) 14) (.var 6))) (.cons (.ite (.bop .And (.cons (.cmp (.var 5) .In (.idx (.attr (.var 0) 11) (.var 6))) (.cons (.cmp (.var 7) .NotIn (.var 2)) .nil))) (.cons (.asg (.idx (.var 2) (.var 7)) (.tup (.cons (.var 6) (.cons (.var 5) .nil)))) (.cons (.expr (.meth (.var 3) 0 (.cons (.var 7) .nil))) (.cons (.ite (.cmp (.idx (.attr (.var 0) 15) (.var 7)) .Gt (.idx (.attr (.var 0) 12) (.var 7))) (.cons (.expr (.meth (.var 0) 22 (.cons (.var 7) (.cons (.var 1) (.cons (.var 2) .nil))))) (.cons (.ret .non) .nil)) .nil) .nil))) .nil) .nil))) .nil))) (.cons (.ret (.call 5 (.cons (.var 3) .nil))) .nil)))
noncomputable def lR:Bk:=(.cons (.aug (.attr (.var 0) 15) (.var 1) .Sub (.int 1)) (.cons (.aug (.attr (.var 0) 15) (.var 2) .Add (.int 1)) (.cons (.whl (.cmp (.var 1) .NotEq (.var 2)) (.cons (.asg (.tup (.cons (.var 4) (.cons (.var 1) .nil))) (.idx (.var 3) (.var 1))) (.cons (.asg (.idx (.attr (.var 0) 14) (.var 4)) (.var 1)) .nil))) .nil)))
noncomputable def kX:Bk:=(.cons (.asg (.tup (.cons (.var 2) (.cons (.var 3) (.cons (.var 4) (.cons (.var 5) .nil))))) (.tup (.cons (.dct1 (.var 1) (.boo true)) (.cons (.lst (.cons (.var 1) .nil)) (.cons (.int 0) (.cons (.boo false) .nil)))))) (.cons (.whl (.cmp (.var 4) .Lt (.call 0 (.cons (.var 3) .nil))) (.cons (.asg (.tup (.cons (.var 6) (.cons (.var 4) (.cons (.var 7) .nil)))) (.tup (.cons (.idx (.var 3) (.var 4)) (.cons (.bin .Add (.var 4) (.int 1)) (.cons (.lst .nil) .nil))))) (.cons (.ite (.bop .And (.cons (.not (.val (.var 5))) (.cons (.cmp (.idx (.attr (.var 0) 15) (.var 6)) .Lt (.idx (.attr (.var 0) 13) (.var 6))) .nil))) (.cons (.asg (.var 5) (.boo true)) (.cons (.expr (.meth (.var 7) 1 (.cons (.comp1 (.var 10) 1 (.rng1 (.call 0 (.cons (.attr (.var 0) 12) .nil))) (.cons (.cmp (.idx (.attr (.var 0) 15) (.var 10)) .Gt (.idx (.attr (.var 0) 12) (.var 10))) .nil)) .nil))) .nil)) .nil) (.cons (.fors (.var 9) (.of (.meth (.var 0) 19 (.cons (.var 6) .nil))) (.cons (.expr (.meth (.var 7) 1 (.cons (.idx (.attr (.var 0) 11) (.var 9)) .nil))) .nil)) (.cons (.fors (.var 8) (.of (.var 7)) (.cons (.ite (.cmp (.var 8) .NotIn (.var 2)) (.cons (.asg (.idx (.var 2) (.var 8)) (.boo true)) (.cons (.expr (.meth (.var 3) 0 (.cons (.var 8) .nil))) .nil)) .nil) .nil)) .nil))))) (.cons (.ret (.tup (.cons (.call 5 (.cons (.var 2) .nil)) (.cons (.var 5) .nil)))) .nil)))
noncomputable def lC:Bk:=(.cons (.asg (.attr (.var 0) 16) (.call 6 (.cons (.var 1) .nil))) (.cons (.asg (.attr (.var 0) 17) (.tup (.cons (.call 6 (.cons (.var 2) .nil)) (.cons (.call 6 (.cons (.var 3) .nil)) (.cons (.call 6 (.cons (.var 4) .nil)) .nil))))) (.cons (.asg (.attr (.var 0) 18) (.lst .nil)) (.cons (.asg (.attr (.var 0) 12) (.lst .nil)) (.cons (.asg (.attr (.var 0) 13) (.lst .nil)) (.cons (.fors (.tup (.cons (.var 5) (.cons (.var 6) (.cons (.var 7) .nil)))) (.zip (.var 2) (.var 3) (.var 4)) (.cons (.expr (.meth (.var 0) 24 (.cons (.var 5) (.cons (.call 2 (.cons (.var 6) (.cons (.int 0) .nil))) (.cons (.var 7) .nil))))) .nil)) (.cons (.asg (.attr (.var 0) 19) (.cmp (.lenSet (.var 1)) .Lt (.call 0 (.cons (.attr (.var 0) 16) .nil)))) .nil)))))))
noncomputable def mW:Bk:=(.cons (.ite (.cmp (.var 1) .In (.attr (.var 0) 18)) (.cons (.asg (.var 4) (.meth (.attr (.var 0) 18) 3 (.cons (.var 1) .nil))) (.cons (.asg (.tup (.cons (.idx (.attr (.var 0) 12) (.var 4)) (.cons (.idx (.attr (.var 0) 13) (.var 4)) .nil))) (.tup (.cons (.call 2 (.cons (.idx (.attr (.var 0) 12) (.var 4)) (.cons (.var 2) .nil))) (.cons (.call 3 (.cons (.idx (.attr (.var 0) 13) (.var 4)) (.cons (.var 3) .nil))) .nil)))) .nil)) (.cons (.expr (.meth (.attr (.var 0) 18) 0 (.cons (.var 1) .nil))) (.cons (.expr (.meth (.attr (.var 0) 12) 0 (.cons (.var 2) .nil))) (.cons (.expr (.meth (.attr (.var 0) 13) 0 (.cons (.var 3) .nil))) .nil)))) .nil)
noncomputable def kH:Bk:=(.cons (.asg (.var 3) (.comp1 (.var 4) 1 (.rng1 (.call 0 (.cons (.attr (.var 0) 18) .nil))) (.cons (.val (.meth (.var 1) 8 (.cons (.var 2) (.cons (.idx (.attr (.var 0) 18) (.var 4)) .nil)))) .nil))) (.cons (.ret (.ite (.cmp (.meth (.var 1) 9 (.cons (.var 2) .nil)) .Gt (.call 0 (.cons (.var 3) .nil))) (.bin .Add (.var 3) (.lst (.cons (.call 0 (.cons (.attr (.var 0) 18) .nil)) .nil))) (.var 3))) .nil))
noncomputable def kO:Bk:=(.cons (.asg (.var 2) (.neg (.int 1))) (.cons (.whl (.cmp (.var 2) .Lt (.call 0 (.cons (.attr (.var 1) 2) .nil))) (.cons (.asg (.var 2) (.call 0 (.cons (.attr (.var 1) 2) .nil))) (.cons (.ite (.not (.val (.meth (.var 0) 26 (.cons (.var 1) .nil)))) (.cons (.ret (.boo false)) .nil) .nil) (.cons (.ite (.not (.val (.attr (.var 0) 19))) (.cons (.ret (.boo true)) .nil) .nil) .nil)))) (.cons (.ret (.boo true)) .nil)))
noncomputable def fT:Bk:=(.cons (.ite (.cmp (.comp1 (.var 9) 1 (.rng1 (.call 0 (.cons (.attr (.var 0) 18) .nil))) (.cons (.cmp (.idx (.attr (.var 0) 12) (.var 9)) .Gt (.idx (.attr (.var 0) 13) (.var 9))) .nil)) .NotEq (.lst .nil)) (.cons (.ret (.meth (.var 1) 14 (.cons (.tup .nil) .nil))) .nil) .nil) (.cons (.asg (.var 3) (.comp1 (.meth (.var 0) 25 (.cons (.var 1) (.cons (.var 9) .nil))) 1 (.of (.attr (.var 0) 16)) .nil)) (.cons (.asg (.var 4) (.call 25 (.cons (.var 3) (.cons (.bin .Add (.attr (.var 0) 12) (.lst (.cons (.int 0) .nil))) (.cons (.bin .Add (.attr (.var 0) 13) (.lst (.cons (.bin .Add (.call 0 (.cons (.attr (.var 0) 16) .nil)) (.int 1)) .nil))) .nil))))) (.cons (.fors (.var 5) (.rng1 (.call 0 (.cons (.attr (.var 0) 16) .nil))) (.cons (.asg (.var 6) (.meth (.var 4) 20 (.cons (.var 5) .nil))) (.cons (.ite (.cmp (.var 6) .IsNot .non) (.cons (.asg (.var 2) (.idx (.attr (.var 0) 16) (.var 5))) (.cons (.ret (.meth (.var 1) 14 (.cons (.bin .Add (.meth (.var 0) 27 (.cons (.var 1) (.cons (.var 4) (.cons (.var 6) .nil)))) (.call 23 (.cons (.var 2) (.cons (.meth (.var 1) 7 (.cons (.var 2) .nil)) .nil)))) .nil))) .nil)) .nil) .nil))) (.cons (.fors (.var 7) (.rng1 (.call 0 (.cons (.attr (.var 0) 18) .nil))) (.cons (.whl (.cmp (.idx (.attr (.var 4) 15) (.var 7)) .Lt (.idx (.attr (.var 0) 12) (.var 7))) (.cons (.asg (.var 8) (.meth (.var 4) 21 (.cons (.var 7) .nil))) (.cons (.ite (.cmp (.var 8) .IsNot .non) (.cons (.ret (.meth (.var 1) 14 (.cons (.meth (.var 0) 28 (.cons (.var 4) (.cons (.var 8) .nil))) .nil))) .nil) .nil) .nil))) .nil)) (.cons (.fors (.var 7) (.rng1 (.bin .Add (.call 0 (.cons (.attr (.var 0) 18) .nil)) (.int 1))) (.cons (.ite (.not (.val (.meth (.var 0) 29 (.cons (.var 1) (.cons (.var 4) (.cons (.var 7) .nil)))))) (.cons (.ret (.boo false)) .nil) .nil) .nil)) (.cons (.ret (.boo true)) .nil)))))))
noncomputable def lB:Bk:=(.cons (.asg (.var 4) (.lst .nil)) (.cons (.fors (.var 5) (.of (.var 3)) (.cons (.fors (.var 6) (.of (.meth (.var 2) 19 (.cons (.var 5) .nil))) (.cons (.expr (.meth (.var 4) 1 (.cons (.call 23 (.cons (.idx (.attr (.var 0) 16) (.var 6)) (.cons (.meth (.var 1) 7 (.cons (.idx (.attr (.var 0) 16) (.var 6)) .nil)) .nil))) .nil))) .nil)) .nil)) (.cons (.ret (.var 4)) .nil)))
noncomputable def lJ:Bk:=(.cons (.asg (.var 3) (.lst .nil)) (.cons (.fors (.var 4) (.rng1 (.call 0 (.cons (.attr (.var 0) 16) .nil))) (.cons (.ite (.cmp (.idx (.attr (.var 1) 14) (.var 4)) .NotIn (.var 2)) (.cons (.expr (.meth (.var 3) 1 (.cons (.comp1 (.tup (.cons (.idx (.attr (.var 0) 16) (.var 4)) (.cons (.str 3) (.cons (.idx (.attr (.var 0) 18) (.var 5)) .nil)))) 1 (.of (.var 2)) .nil) .nil))) .nil) .nil) .nil)) (.cons (.ret (.var 3)) .nil)))
noncomputable def gD:Bk:=(.cons (.asg (.tup (.cons (.var 4) (.cons (.var 5) .nil))) (.meth (.var 2) 23 (.cons (.var 3) .nil))) (.cons (.asg (.var 6) (.comp1 (.var 13) 1 (.rng1 (.call 0 (.cons (.attr (.var 0) 16) .nil))) (.cons (.bop .And (.cons (.cmp (.var 3) .In (.idx (.attr (.var 2) 11) (.var 13))) (.cons (.cmp (.idx (.attr (.var 2) 14) (.var 13)) .NotIn (.var 4)) .nil))) .nil))) (.cons (.ite (.cmp (.var 6) .Eq (.lst .nil)) (.cons (.ret (.boo true)) .nil) .nil) (.cons (.ite (.val (.var 5)) (.cons (.asg (.var 7) (.comp1 (.var 13) 1 (.rng1 (.call 0 (.cons (.attr (.var 0) 18) .nil))) (.cons (.bop .And (.cons (.cmp (.var 13) .NotIn (.var 4)) (.cons (.cmp (.idx (.attr (.var 0) 12) (.var 13)) .Gt (.int 0)) .nil))) .nil))) (.cons (.asg (.var 8) (.meth (.var 0) 28 (.cons (.var 2) (.cons (.var 7) .nil)))) .nil)) (.cons (.asg (.var 8) (.meth (.var 0) 27 (.cons (.var 1) (.cons (.var 2) (.cons (.var 4) .nil))))) .nil)) (.cons (.fors (.var 9) (.of (.var 6)) (.cons (.asg (.var 10) (.idx (.attr (.var 0) 16) (.var 9))) (.cons (.asg (.var 12) (.comp1 (.var 13) 1 (.of (.call 15 (.cons (.meth (.var 1) 7 (.cons (.var 10) .nil)) .nil))) (.cons (.cmp (.var 13) .NotIn (.attr (.var 0) 18)) .nil))) (.cons (.fors (.var 11) (.of (.ite (.cmp (.var 3) .Lt (.call 0 (.cons (.attr (.var 0) 18) .nil))) (.lst (.cons (.idx (.attr (.var 0) 18) (.var 3)) .nil)) (.var 12))) (.cons (.ite (.not (.val (.meth (.var 1) 12 (.cons (.tup (.cons (.var 10) (.cons (.str 3) (.cons (.var 11) .nil)))) (.cons (.var 8) .nil))))) (.cons (.ret (.boo false)) .nil) .nil) .nil)) .nil)))) (.cons (.ret (.boo true)) .nil))))))
noncomputable def mP:Bk:=(.cons (.fors (.tup (.cons (.var 2) (.cons (.var 3) (.cons (.var 4) .nil)))) (.zip (.idx (.attr (.var 0) 17) (.int 0)) (.idx (.attr (.var 0) 17) (.int 1)) (.idx (.attr (.var 0) 17) (.int 2))) (.cons (.ite (.not (.cmp2 (.var 3) .LtE (.meth (.call 7 (.cons (.var 1) .nil)) 4 (.cons (.var 2) .nil)) .LtE (.var 4))) (.cons (.ret (.boo false)) .nil) .nil) .nil)) (.cons (.ret (.boo true)) .nil))
noncomputable def mX:Bk:=(.cons (.ret (.bin .Add (.tup (.cons (.str 4) (.cons (.attr (.var 0) 16) .nil))) (.attr (.var 0) 17))) .nil)
noncomputable def fnL:List (Nat×Fn):=[(10,⟨1,1,none,FO⟩),(11,⟨1,1,none,xR⟩),(12,⟨1,1,none,Iu⟩),(13,⟨2,4,none,uU⟩),(14,⟨2,2,none,Nr⟩),(15,⟨1,4,none,CC⟩),(16,⟨2,2,none,FM⟩),(17,⟨2,2,none,AW⟩),(18,⟨2,2,none,AU⟩),(19,⟨2,7,none,Iv⟩),(20,⟨1,4,none,xP⟩),(21,⟨2,4,none,CD⟩),(22,⟨2,3,none,AV⟩),(23,⟨2,7,none,xO⟩),(27,⟨2,3,none,uY⟩),(28,⟨1,14,none,gV⟩),(29,⟨1,3,none,tB⟩),(30,⟨4,6,none,uX⟩),(31,⟨2,4,none,xQ⟩),(32,⟨3,3,none,rF⟩),(33,⟨3,4,none,qO⟩),(34,⟨2,2,none,uW⟩),(35,⟨2,2,none,tA⟩),(36,⟨5,11,none,iV⟩),(37,⟨4,10,none,gI⟩),(38,⟨1,6,none,uV⟩),(39,⟨3,7,none,iH⟩),(40,⟨1,20,none,jY⟩)]
noncomputable def mtL:List ((Nat×Nat)×Fn):=[((0,2),⟨2,4,none,uZ⟩),((0,5),⟨1,1,none,oW⟩),((0,6),⟨2,2,none,pO⟩),((0,7),⟨2,2,none,vB⟩),((0,8),⟨3,3,none,vA⟩),((0,9),⟨2,2,none,rG⟩),((0,10),⟨2,2,none,rH⟩),((0,11),⟨4,7,none,rI⟩),((0,12),⟨3,3,none,qP⟩),((0,13),⟨2,2,none,qQ⟩),((0,14),⟨2,2,none,tD⟩),((0,15),⟨1,1,none,tC⟩),((1,5),⟨4,4,none,mV⟩),((1,19),⟨2,2,none,lS⟩),((1,20),⟨2,9,none,pP⟩),((1,21),⟨2,8,none,qR⟩),((1,22),⟨4,5,none,lR⟩),((1,23),⟨2,10,none,kX⟩),((2,5),⟨5,8,some (.cons (.var 1) (.cons (.str 5) .nil)),lC⟩),((2,16),⟨2,3,none,kO⟩),((2,17),⟨2,5,none,mP⟩),((2,18),⟨1,1,none,mX⟩),((2,24),⟨4,5,none,mW⟩),((2,25),⟨3,4,none,kH⟩),((2,26),⟨2,9,none,fT⟩),((2,27),⟨4,7,none,lB⟩),((2,28),⟨3,5,none,lJ⟩),((2,29),⟨4,13,none,gD⟩)]
noncomputable def nm(k:Nat):Str:=Ic.getD k Str.empty
noncomputable def mn(m:Nat):Str:=uN.getD m Str.empty
inductive BQ(X:Pk)(f:Addr)(F:Fn):Prop | mk (fd:FuncData) (body:List Stmt):oJ X f F fd body→(∀p∈fd.scope.names,p.2≠.free)→fd.closure=[]→F.sup=none→BQ X f F
structure Hf(X:Pk)(F:Fn)(fd:FuncData)(c cda:Addr)(ar:Arg)(file:Str):Prop where
 free:∀p∈fd.scope.names,p.2=.free→p.1=Str.ofString "__class__"
 cell:∀p∈fd.scope.names,p.2≠.cell
 clo:fd.closure=[(Str.ofString "__class__",c)]
 cls:∃oc od sl,X.K.lookup c=some ⟨oc,od,.cell (some (.ref (X.cls 2))),sl⟩
 arg:(fd.params.posonlyargs++fd.params.args).head?=some ar
 arg2:(gF fd.scope).head?=some ar.arg
 code:fd.code=.ref cda
 codeAt:∃ccl cdd vs ccs tf,X.K.lookup cda=some ⟨ccl,cdd,.fields vs,ccs⟩∧vs[2]?=some (.str file tf)
 same:((P.main.file:Str)==file)=true
 sup:fd.scope.names.lookup (Str.ofString "super")=some .globalImplicit
 kcls:fd.scope.names.lookup (Str.ofString "__class__")=some .free
 np:0<F.np
inductive Hg(X:Pk)(f:Addr)(F:Fn):Prop | mk (fd:FuncData) (body:List Stmt) (c cda:Addr) (ar:Arg) (file:Str) (es:Exs):oJ X f F fd body→Hf X F fd c cda ar file→F.sup=some es→Hg X f F
noncomputable def zM:Fn:=⟨3,3,none,qF⟩
structure Zf(X:Pk):Prop where
 glob:X.mg (Str.ofString "super")=none
 blt:X.mb (Str.ofString "super")=some (.type "super")
 cls:∃cd,clsIn X.K (X.cls 2)=some cd
 sub:mroIn X.K (X.cls 2) (.ref (X.cls 2))=some true
 thr:nsIn X.K cStatics "thirdparty.any" = some none
 base:∃pf,ks_superIn X.K (X.cls 2) (X.cls 2) (Str.ofString "__init__")=some (some (.ref pf))∧typeIn X.K (.ref pf)=some (.type "function")∧fnIn X.K pf=true∧BQ X pf zM
noncomputable def CS(X:Pk)(f:Addr)(F:Fn):Prop:=BQ X f F∨Hg X f F
structure KnownN(X:Pk):Prop extends Known0 X where
 blt:∀k,k<10→X.mg (nm k)=none∧X.mb (nm k)=some (qS k)
 fn:∀p∈fnL,∃f,X.mg (nm p.1)=some (.ref f)∧keepIn X.K (.ref f)=true∧BQ X f p.2
 cls:∀c,c<3→X.mg (nm (24+c))=some (.ref (X.cls c))∧keepIn X.K (.ref (X.cls c))=true∧makesIn X.K (X.cls c)=true
 meth:∀p∈mtL,∃f,findIn X.K (.ref (X.cls p.1.1)) (mn p.1.2)=some (some (.ref f))∧isFn X.K (.ref f)=true∧keepIn X.K (.ref f)=true∧CS X f p.2
 sup:Zf X
theorem VM{κ α:Type}[DecidableEq κ]{k:κ}{v:α}:∀(l:List (κ×α)),l.lookup k=some v→(k,v)∈l:=
 List.rec (λh=>nomatch h) λp l ih h=>by
  rw[show p=(p.1,p.2) from rfl,dC] at h
  cases q:k==p.1 with
  |true =>
   rw[q] at h
   rw[eq_of_beq q,←Option.some.inj h]
   exact aZ
  |false=>rw[q] at h;exact bA _ (ih h)
structure WY(sc:Scope)(x:Str)(k:Nat):Prop where
 eq:x=nm k
 kind:sc.names.lookup x=some .globalImplicit
 dbg:(x==("__debug__" : Str))=false
theorem GF{sc:Scope}{x:Str}{k:Nat}(h:Cb sc x=some k):WY sc x k:=by
 refine(jP (b:=none) h).elim (λq=>?_) λh=>nomatch h
 obtain⟨q1,q2⟩:=and2 q.1
 refine⟨(yL q.2).symm,?_,(dU _).mp q2⟩
 unfold Gi at q1
 cases e:sc.names.lookup x with
 |none=>rw[e] at q1;cases q1
 |some kd=>rw[e] at q1;cases kd<;>first | rfl | cases q1
section
variable{X:Pk}{S:Addr→Prop}{φ:List Addr}{w:W}{s:Shared}{env:Env}{sc:Scope}{ns:List Str}{ρ:List V}{A:Around}
theorem KU(R:fW X S φ env sc ns ρ s.heap)(C:Cst X φ w s){x:Str}{pos:Pos}{v:Value}{Q:Value→Shared→Prop}(hx:sc.names.lookup x=some .globalImplicit)(hd:(x==("__debug__" : Str))=false)(hv:X.mg x=some v)(h:Q v s) :
  wpAny (model P X.w) A (eval (.Name x pos) env) Q nor s:=by
 refine PySem.Calls.Name_function_global R.kind (R.glo x hx) (PySem.Calls.loadGlobal_global (mg:=X.mg) ?_ hv h) hd
 rw[R.glob];exact X.g.keeps λb o e=>C.base b o e
theorem NJ(R:fW X S φ env sc ns ρ s.heap)(C:Cst X φ w s){x:Str}{pos:Pos}{v:Value}{Q:Value→Shared→Prop}(hx:sc.names.lookup x=some .globalImplicit)(hd:(x==("__debug__" : Str))=false)(hm:X.mg x=none)(hv:X.mb x=some v)(h:Q v s) :
  wpAny (model P X.w) A (eval (.Name x pos) env) Q nor s:=by
 refine PySem.Calls.Name_function_global R.kind (R.glo x hx) (PySem.Calls.loadGlobal_builtin (mg:=X.mg) (mb:=X.mb) ?_ hm ?_ hv h) hd
 ·rw[R.glob];exact X.g.keeps λb o e=>C.base b o e
 ·rw[R.blt];exact X.b.keeps λb o e=>C.base b o e
structure CT(pys:List Expr)(env:Env)(pos:Pos):Prop where
 any:(backTo pos (starEach pys env)).any (·.1)=false
 all:(backTo pos (starEach pys env)).all (!·.1)=true
theorem Trs.plain{pos:Pos}{env:Env}(es:Exs):∀pys,Trs sc ns pys es→CT pys env pos:=
 Exs.rec (motive_1:=λξ=>True) (motive_2:=λes=>∀pys,Trs sc ns pys es→CT pys env pos) (motive_3:=λξ=>True) (motive_4:=λξ=>True) (motive_5:=λξ=>True) trivial (λξ=>trivial) (λξ=>trivial) (λξ=>trivial) (λξ=>trivial)
  (λξ ξ ξ ξ ξ=>trivial) (λξ ξ=>trivial) (λξ ξ ξ ξ=>trivial) (λξ ξ ξ ξ ξ=>trivial) (λξ ξ ξ ξ ξ ξ=>trivial) (λξ ξ=>trivial) (λξ ξ=>trivial) trivial (λξ ξ ξ ξ=>trivial) (λξ ξ ξ ξ=>trivial) (λξ ξ ξ ξ=>trivial) (λξ ξ ξ ξ=>trivial) (λξ ξ ξ=>trivial)
  (λξ ξ ξ=>trivial) (λξ ξ=>trivial) (λξ ξ=>trivial) (λξ ξ ξ ξ ξ=>trivial) (λξ ξ ξ ξ ξ ξ=>trivial) (λξ ξ ξ ξ ξ ξ ξ=>trivial) (λξ ξ ξ ξ ξ ξ ξ ξ=>trivial)
  (λpys h=>by rw[jR (VT h)];exact⟨rfl,rfl⟩) (λe es ξ ih pys h=>(gX (Nz h)).casesOn λp ps a b=>by
   have q:=ih ps b
   have q1:=q.any
   have q2:=q.all
   refine⟨?_,?_⟩<;>rw[(Tr.plain a).star]
   ·simp only[backTo,aY,List.any_cons] at q1 ⊢;rw[q1];rfl
   ·simp only[backTo,aY,List.all_cons] at q2 ⊢;rw[q2];rfl)
  (λξ ξ=>trivial) (λξ ξ ξ=>trivial) (λξ ξ ξ ξ ξ=>trivial) (λξ ξ ξ ξ ξ ξ ξ ξ=>trivial) (λξ ξ=>trivial) trivial (λξ ξ ξ ξ=>trivial) (λξ ξ=>trivial) (λξ ξ ξ ξ=>trivial) (λξ ξ ξ ξ ξ ξ=>trivial) (λξ ξ=>trivial) es
theorem qJ{M:Model}{E:Value→Shared→Prop}{f:Value}{pys:List Expr}{es:Exs}(h:Trs sc ns pys es){pos:Pos}{Q:Args→Shared→Prop}(q:wpAny M A (spliced (backTo pos (starEach pys env))) (λvs s'=>Q ⟨vs,[]⟩ s') E s):wpAny M A (evalArgs f true (backTo pos (starEach pys env)) []) Q E s:=by
 cases es with
 |nil =>
  rw[jR (VT h)] at q ⊢
  unfold evalArgs
  show wpAny M A (spliced (backTo pos (starEach [] env)) >>= _) Q E s
  refine wpAny_bind (wpAny_mono q (λvs s' h'=>?_) λξ ξ x=>x)
  refine wpAny_bind (wpAny_pure ?_)
  refine wpAny_holding ?_
  exact wpAny_bind (wpAny_pure (wpAny_bind (wpAny_pure (wpAny_pure h'))))
 |cons a b =>
  refine(gX (Nz h)).casesOn (motive:=λpys ξ=>wpAny M A (spliced (backTo pos (starEach pys env))) (λvs s'=>Q ⟨vs,[]⟩ s') E s→wpAny M A (evalArgs f true (backTo pos (starEach pys env)) []) Q E s) (λp ps x y q=>?_) q
  rw[(Tr.plain x).star] at q ⊢
  exact PySem.Calls.evalArgs_plain q
inductive xZ(X:Pk):Value→Prop | blt (id:String):xZ X (.builtin id) | typ (T:String):xZ X (.type T) | own (f:Value):keepIn X.K f=true→xZ X f
theorem lL{pos:Pos}{f:Value}{first:List Value}{pys:List Expr}{es:Exs}{Q:Value→Shared→Prop}(h:Trs sc ns pys es)(hf:xZ X f)(q:WP X A (spliced (backTo pos (starEach pys env))) (λvs s'=>X.K.In s'.heap∧WP X A (call f (first++vs)) Q s') s):WP X A (callWith pos f first (backTo pos (starEach pys env)) []) Q s:=by
 have hp:=(Trs.plain (pos:=pos) (env:=env) es pys h).any
 cases hf with
 |blt id=>exact PySem.Calls.callWith_builtin hp (qJ h (q.mono λξ ξ z=>z.2))
 |typ T=>exact PyProof.Rows.callWith_type hp (qJ h (q.mono λξ ξ z=>z.2))
 |own f hf=>exact callWith_of (P:=X.K.In) (by rw[hp];rfl) (λh' hx=>keeps_K hf h' hx) (qJ h q)
end
inductive xG(X:Pk)(k:Nat)(f:Value):Prop | blt:X.mg (nm k)=none→X.mb (nm k)=some f→xG X k f | own:X.mg (nm k)=some f→xG X k f
section
variable{X:Pk}{r:Nat}{ρ:List V}{w w1 w2 w3:W}{S:Addr→Prop}{φ:List Addr}{env:Env}{sc:Scope}{ns:List Str}{s:Shared}{A:Around}
theorem El(F:Fr X r S φ env sc ns ρ w s A){x:Str}{k:Nat}{pos:Pos}{f:Value}{Q:Value→Shared→Prop}(hx:Cb sc x=some k)(hf:xG X k f)(h:Q f s):WP X A (eval (.Name x pos) env) Q s:=by
 have g:=GF hx
 have e:=g.eq
 cases hf with
 |blt h1 h2=>exact NJ F.R F.C g.kind g.dbg (by rw[e];exact h1) (by rw[e];exact h2) h
 |own h1=>exact KU F.R F.C g.kind g.dbg (by rw[e];exact h1) h
theorem mQ{py:Expr}{k:Nat}{es:Exs}{ds:List V}{f:Value}(ht:gC k (wR es) sc ns py=true)(F:Fr X r S φ env sc ns ρ w s A)(hf:xG X k f)(hx:xZ X f)(h1:Evs X r es ρ w ds w1){Q:Value→Shared→Prop}(q:∀φ1 s1 vs,fR X no φ w s φ1 w1 s1→fU X φ1 s1.heap vs ds→Fr X r S φ1 env sc ns ρ w1 s1 A→WP X A (call f vs) Q s1):WP X A (eval py env) Q s:=(Bx ht).casesOn λx p pos args hk a =>
 wpAny_Call_ofName (El F hk hf (lL a hx (h1.use a F λφ1 s1 vs T1 r1 F1=>⟨F1.C.K,q φ1 s1 vs T1 r1 F1⟩)))
theorem Ev.callG{k:Nat}{es:Exs}{ds:List V}{d:V}{f:Value}(h1:Evs X r es ρ w ds w1)(hf:xG X k f)(hx:xZ X f)(hc:Fz X r f ds w1 d w2):Ev X r (.call k es) ρ w d w2:=λpy sc ns ht S env φ s A F =>
 mQ (TS ht) F hf hx h1 λφ1 s1 vs T1 r1 F1=>(hc φ1 s1 A vs r1 F1.C F1.M).mono λv s2 q=>q.after T1
theorem wI{o:Expr}{o':Ex}{name:Str}{apos pos:Pos}{pys:List Expr}{es:Exs}{Q:Value→Shared→Prop}(ho:Tr sc ns o o')(hn:nU o=true)(h:Trs sc ns pys es)(hline:(apos.endLine==pos.line)=true)(hlen:pys.length<20)(q:WP X A (eval o env) (λov s₁=>∀pl,WP X A (getMethod ov name pl) (λp s₂=>WP X A (callWith pos p.1 p.2 (backTo pos (starEach pys env)) []) Q s₂) s₁) s):WP X A (eval (.Call (.Attribute o name apos) pys [] pos) env) Q s:=by
 rw[arm_eval_Call,ho.base hn]
 refine wpAny_bind (q.mono λov s₁ h₁=>?_)
 have hform:methodCallForm (pys.length+([]:List Keyword).length) (backTo pos (starEach pys env)) (backToKw pos (keywordEach [] env))=true:=by
  unfold methodCallForm
  rw[(Trs.plain (pos:=pos) (env:=env) es pys h).all]
  have:decide (pys.length+0+0<30)=true:=decide_eq_true (cO hlen (by decide))
  have e:backToKw pos (keywordEach [] env)=[]:=rfl
  rw[e];simpa using this
 have hpos:methodCallPos true o env apos pos=pure pos:=by unfold methodCallPos;simp[hline]
 refine wpAny_bind (wpAny_standAt ?_)
 unfold methodCall
 rw[hform]
 refine wpAny_bind (wpAny_holding ?_)
 unfold calleeOf
 rw[if_pos rfl]
 exact WP.mono (h₁ _) λp s₂ h₂=>wpAny_bind (wpAny_of_eq hpos h₂)
end
end
section
open PySem PySem.W PyProof.Rows
set_option genInjectivity false
theorem Gm:∀f,f<20→∀m,m<30→gY f≠mn m:=by decide +kernel
theorem kK.noMeth{X:Pk}{φ h}{m:Nat}(hm:m<30):∀(fs:List (Nat×V)) (es:List DictEntry),kK X φ h es fs→getL (mn m) es=some none:=
 List.rec (λes r=>by rw[show es=[] from r];rfl) λp fs ih es r=>r.cons_inv.casesOn λe us a r=>a.casesOn λhs t v hg a=>by
  have ih:=ih us r
  unfold getL at ih
  have e2:Value.isStr (.str (gY p.1) t) (mn m)=false:=by simp[Value.isStr,Gm p.1 hg m hm]
  simpa [getL,List.find?_cons,e2,DictEntry.refKey] using ih
theorem sE{a:Str}{m:Nat}(h:idxOf a uN=some m):a=mn m∧m<30:=⟨(yL h).symm,Nat.lt_of_lt_of_eq (aB.mp (pQ h)).1 (by decide +kernel)⟩
section
variable{X:Pk}{r:Nat}{ρ:List V}{w w1 w2 w3:W}
inductive Pv(X:Pk)(c m:Nat)(f:Addr):Prop | mk:findIn X.K (.ref (X.cls c)) (mn m)=some (some (.ref f))→isFn X.K (.ref f)=true→keepIn X.K (.ref f)=true→Pv X c m f
theorem Ev.methObj(Kn:Known0 X){o:Ex}{m c n:Nat}{es:Exs}{fs:List (Nat×V)}{ds:List V}{d:V}{f:Addr}(h1:Ev X r o ρ w (.obj c n) w1)(hc:c<3)(hn:w1.get n=some (.ns fs))(h2:Evs X r es ρ w1 ds w2)(hm:Pv X c m f)(h3:Fz X r (.ref f) (.obj c n::ds) w2 d w3):Ev X r (.meth o m es) ρ w d w3:=λpy sc ns ht S env φ s A F=>(wL (Ny ht)).casesOn λv at_ p pos args hl hlen hv hk b=>hm.casesOn λf1 f2 f3=>by
 obtain⟨rfl,hm2⟩:=sE hk
 refine wI hv.2 hv.1 b hl hlen (h1.use hv.2 F λφ1 s1 u T1 r1 F1 pl=>?_)
 refine(DN F1.C r1 hn).casesOn (motive:=λu ξ=>Rep X φ1 s1.heap u (.obj c n)→WP X A (getMethod u (mn m) pl) (λp s₂=>WP X A (callWith pos p.1 p.2 (backTo pos (starEach args env)) []) (hH X φ w s d w3) s₂) s1) (λx dx es' k hdx I Fl hz ho ξ r1=>?_) r1
 refine method_fn F1.C.K I (plainGet_of (Kn.get c hc)).1 (plainGet_of (Kn.get c hc)).2 f1 (beq_iff_eq.mp f2) (by show(lookIn (mn m) (dictOf es' k)).map _=_;rw[lookIn_dict,kK.noMeth hm2 _ _ Fl];rfl) ?_
 exact lL b (.own _ f3) (h2.use b F1 λφ2 s2 vs T2 r2 F2=>⟨F2.C.K,(h3 φ2 s2 A _ (.cons (r1.step F1.C T2) r2) F2.C F2.M).mono λz s3 q=>q.after (T1.trans T2)⟩)
theorem FE(m:Nat)(hm:m=0∨m=1∨m=2∨m=4):Slot "list" (mn m) (Il m)∧typeOf (.builtin (Il m))=pure (.type "method_descriptor"):=by
 rcases hm with rfl | rfl | rfl | rfl
 ·exact⟨PySem.F.slot_list_append,by kernel_rfl⟩
 ·exact⟨PySem.F.slot_list_extend,by kernel_rfl⟩
 ·exact⟨PySem.F.slot_list_pop,by kernel_rfl⟩
 ·exact⟨PySem.F.slot_list_count,by kernel_rfl⟩
theorem KV{o:Ex}{m n:Nat}{es:Exs}{l:List V}{ds:List V}{S env φ sc ns s A}{py:Expr}(ht:nX (chE o) m (wR es) sc ns py=true)(F:Fr X r S φ env sc ns ρ w s A)(h1:Ev X r o ρ w (.ref n) w1)(hm:m=0∨m=1∨m=2∨m=4)(hn:w1.get n=some (.list l)){Q:Value→Shared→Prop}(k:∀φ1 s1 a pos args,fR X no φ w s φ1 w1 s1→Fr X r S φ1 env sc ns ρ w1 s1 A→φ1[n]?=some a→Trs sc ns args es→WP X A (spliced (backTo pos (starEach args env))) (λvs s'=>X.K.In s'.heap∧WP X A (call (.builtin (Il m)) (.ref a::vs)) Q s') s1):WP X A (eval py env) Q s:=(wL ht).casesOn λv at_ p pos args hl hlen hv hk b=>by
 obtain⟨rfl,_⟩:=sE hk
 obtain⟨s1',s2'⟩:=FE m hm
 exact wI hv.2 hv.1 b hl hlen (h1.use hv.2 F λφ1 s1 u T1 r1 F1 pl=>r1.ref_inv.casesOn λad e1=>(gL F1.C hn e1).casesOn λk' us ho rs hlen2 =>
  getMethod_list_of (items:=us.toArray) s1' s2' ⟨_,ho,rfl,k',rfl⟩ ⟨_,ho,rfl⟩ (lL b (.blt _) (k φ1 s1 ad pos args T1 F1 e1 b)))
theorem Ev.methList{o:Ex}{m n:Nat}{es:Exs}{l:List V}{ds:List V}{d:V}(h1:Ev X r o ρ w (.ref n) w1)(hm:m=0∨m=1∨m=2∨m=4)(hn:w1.get n=some (.list l))(h2:Evs X r es ρ w1 ds w2)(h3:Lm X r n m ds w2 d w3):Ev X r (.meth o m es) ρ w d w3:=λpy sc ns ht S env φ s A F =>
 KV (ds:=ds) (Ny ht) F h1 hm hn λφ1 s1 a pos args T1 F1 e1 b=>h2.use b F1 λφ2 s2 vs T2 r2 F2=>⟨F2.C.K,(h3 φ2 s2 A a vs (sC T2.pre e1) r2 F2.C F2.M).mono λz s3 q=>q.after (T1.trans T2)⟩
theorem lM.make{A:Around}(M:lM (r+1) A)(C:Addr)(vals:List Value):lM r (A.under (.builtin "type.__call__" ⟨.ref C::vals,[]⟩)):=
 ⟨M.hand,by have:=M.depth;show A.depth+1+3*r≤700;lia,by have:=M.units;show A.units+1+30*r≤9000;lia⟩
theorem oL.make{c:Nat}{ds:List V}{f:Addr}(hm:makesIn X.K (X.cls c)=true)(hi:findIn X.K (.ref (X.cls c)) "__init__" = some (some (.ref f)))(hf:typeIn X.K (.ref f)=some (.type "function"))(h:oL X r (.ref f) (.obj c w.next::ds) (w.add (.ns [])) .none w1):oL X (r+1) (.ref (X.cls c)) ds w (.obj c w.next) w1:=λφ s A vs R C M=>by
 obtain⟨hh,g,d,t,os⟩:=s
 refine make_core (makes_of C.K hm) (looks_findIn C.K hi) (λself=>bind_fn C.K self hf) (.inl rfl) ?_
 have T1:=fR.new C emptyDict (.ns []) (Pt.mk 0 [] (aW _ rfl) .nil (cX _))
 have T2:=fR.push T1.cst (instObj (X.cls c) hh.objs.size)
 have T:=T1.trans T2
 have hx:((hh.push emptyDict).push (instObj (X.cls c) hh.objs.size)).get? (hh.objs.size+1)=some (instObj (X.cls c) hh.objs.size):=by
  have:=aW (hh.push emptyDict) (o:=instObj (X.cls c) hh.objs.size) rfl
  rwa [dX] at this
 have rx:Rep X (φ++[hh.objs.size]) ((hh.push emptyDict).push (instObj (X.cls c) hh.objs.size)) (.ref (hh.objs.size+1)) (.obj c w.next):=.obj hx (sD C _)
 refine codeAny_mono (h _ ⟨(hh.push emptyDict).push (instObj (X.cls c) hh.objs.size),g,d,t,os⟩ _ _ (.cons rx (R.step C T)) T.cst (M.make (X.cls c) vs)) λres s' z=>?_
 rcases res with e | (_ | _ | _ | v)
 ·exact z.elim
 ·exact z.elim
 ·exact z.elim
 ·exact z.elim
 ·exact z.casesOn λφ3 T3 r3=>by
   rw[r3.none_inv]
   exact⟨rfl,φ3,T.trans T3,Rep.step T.cst T3 rx⟩
end
noncomputable def Pk.with(X:Pk)(B:Addr→Prop):Pk:={X with ban:=λa=>X.ban a∨B a}
section
variable{X X':Pk}{B S:Addr→Prop}{φ φ':List Addr}{h:Heap}{w w':W}{s s':Shared}{env:Env}{sc:Scope}{ns:List Str}{ρ:List V}
theorem yP(hB:∀a,B a→h.get? a=none)(d:V)(v:Value)(r:Rep X φ h v d):Rep (X.with B) φ h v d:=
 Rep.keepsG (X:=X) (X':=X.with B) ⟨cA _,λξ ξ ξ e ξ=>e,λa ξ ξ e b q=>Or.elim q b λq=>(by rw[hB a q] at e;cases e),rfl,rfl,λξ ξ ξ e=>e⟩ d v r
theorem nN(d:V)(v:Value)(r:Rep (X.with B) φ h v d):Rep X φ h v d:=
 Rep.keepsG (X:=X.with B) (X':=X) ⟨cA _,λξ ξ ξ e ξ=>e,λa ξ ξ e b q=>b (Or.inl q),rfl,rfl,λξ ξ ξ e=>e⟩ d v r
theorem Oz(hB:∀a,B a→h.get? a=none){a:Addr}{c:hW}(x:iK X φ h a c):iK (X.with B) φ h a c:=iK.keepsG (X:=X) (X':=X.with B) rfl (yP hB) (λξ e=>e) x
theorem Aj{a:Addr}{c:hW}(x:iK (X.with B) φ h a c):iK X φ h a c:=iK.keepsG (X:=X.with B) (X':=X) rfl nN (λξ e=>e) x
theorem fW.chg(R:fW X S φ env sc ns ρ h)(e0:X'.h0=X.h0)(k:∀d v,Rep X φ h v d→Rep X' φ h v d):fW X' S φ env sc ns ρ h:=
 have ko:∀{o d},mU X φ h o d→mU X' φ h o d:=λx=>x.casesOn (λo=>.unset o) λv d r=>.mk v d (k _ _ r)
 ⟨R.kind,R.glob,R.blt,R.loc,R.cel,R.fre,R.glo,R.len,R.tab.casesOn λm h1 h2=>⟨m,h1,λx i d a b c e=>ko (h2 x i d a b c e)⟩,λx hx=>(R.cell x hx).casesOn λc v h1 h2 h3 h4=>⟨c,v,h1,h2,h3,λi d a b=>ko (h4 i d a b)⟩,
  R.apart,R.own,λa ha=>(R.ownOk a ha).casesOn λo h1 h2 h3 h4=>⟨o,h1,by rw[e0];exact h2,h3,h4⟩⟩
theorem Cst.unban(C:Cst (X.with B) φ w s):Cst X φ w s:=
 ⟨C.len,C.nd,λn c h=>(C.cell n c h).elim λa q=>⟨a,q.1,Aj q.2⟩,C.alive,C.fresh,C.base,C.gens,C.os,λa ha=>C.ban a (.inl ha)⟩
theorem fR.unban(T:fR (X.with B) S φ w s φ' w' s'):fR X S φ w s φ' w' s':=⟨T.pre,T.len,T.cst.unban,T.keep,T.newf,T.alive,T.mono⟩
theorem fR.ended{js:List Addr}(C0:Cst X φ w s'){φ1:List Addr}{w1:W}{s s2:Shared}(T:fR (X.with B) (λa=>S a∨a∈js) φ w s' φ1 w1 s)(hJ0:∀a,a∈js→s'.heap.get? a=none)(O:jM (X.with B) φ1 s.heap js)(E:tF X s js s2) :
  fR X S φ w s' φ1 w1 s2∧kJ (X.with B) φ1 φ1 s.heap s2.heap:=by
 have C:=T.cst
 have K:=O.kept E.kept
 have ala:∀b,¬b∈js→(s.heap.get? b).isSome=true→(s2.heap.get? b).isSome=true:=λb q=>lX λo=>E.kept b o q
 have nj:∀b,(s'.heap.get? b).isSome=true→¬b∈js:=λb e q=>by rw[hJ0 b q] at e;cases e
 have no:∀b,b∈js→b∉φ1∧X.h0.get? b=none:=λb q=>(O b q).casesOn λξ h1 h2 ξ ξ ξ ξ=>⟨h1,h2⟩
 exact⟨⟨T.pre,T.len,⟨C.len,C.nd,λn c h=>(C.cell n c h).elim λb q=>⟨b,q.1,Aj (iK.keeps K (λo=>E.kept b o λz=>(no b z).1 (aF q.1)) q.2)⟩,
   λb hb=>ala b (λq=>(no b q).1 hb) (C.alive b hb),C.fresh,λb o e=>E.kept b o (λq=>by rw[(no b q).2] at e;cases e) (C.base b o e),E.gens.trans C.gens,E.os.trans C.os,λb hb=>ala b (nj b (C0.ban b hb)) (C.ban b (.inl hb))⟩,
  λb o e hl hns=>E.kept b o (nj b (iB e)) (T.keep b o e hl λq=>q.elim hns (nj b (iB e))),T.newf,λb e=>ala b (nj b e) (T.alive b e),T.mono⟩,K⟩
end
structure jG(X:Pk)(B:Addr→Prop)(js:List Addr)(φ:List Addr)(sA s:Shared)(I:Addr)(it:It):Prop where
 kept:∀b o,sA.heap.get? b=some o→s.heap.get? b=some o
 gens:s.gens=sA.gens
 os:s.os=sA.os
 fresh:∀a,a∈js→sA.heap.get? a=none
 sub:∀a,B a→a∈js
 at_:mF (X.with B) φ s.heap I js it
 own:jM (X.with B) φ s.heap js
section
variable{X:Pk}{B S:Addr→Prop}{js φ:List Addr}{w:W}{sA s:Shared}{I:Addr}{it:It}{env:Env}{sc:Scope}{ns:List Str}{ρ:List V}
theorem jG.noB(x:jG X B js φ sA s I it):∀a,B a→sA.heap.get? a=none:=λa ha=>x.fresh a (x.sub a ha)
theorem jG.K(x:jG X B js φ sA s I it){X':Pk}:kJ X' φ φ sA.heap s.heap:=.all (cA _) x.kept
theorem jG.cst(x:jG X B js φ sA s I it)(C:Cst X φ w sA):Cst (X.with B) φ w s:=by
 have C':=(fR.grow C x.kept x.gens x.os).cst
 exact⟨C'.len,C'.nd,λn c h=>(C.cell n c h).elim λa q=>⟨a,q.1,iK.keeps x.K (x.kept a) (Oz x.noB q.2)⟩,C'.alive,C'.fresh,C'.base,C'.gens,C'.os,λa ha=>ha.elim (C'.ban a) λha=>(x.own a (x.sub a ha)).casesOn λo ξ ξ e ξ ξ ξ=>iB e⟩
theorem jG.toEnv(x:jG X B js φ sA s I it)(R:fW X S φ env sc ns ρ sA.heap):fW (X.with B) S φ env sc ns ρ s.heap:=
 (R.chg (X':=X.with B) rfl (yP x.noB)).keeps x.K (λa o ξ=>x.kept a o) (λa v z=>z.keeps x.kept) λa ξ q=>q
theorem jG.apart(x:jG X B js φ sA s I it)(R:fW X S φ env sc ns ρ sA.heap):∀a,a∈js→¬S a:=λa ha hs=>(R.ownOk a hs).casesOn λo ξ ξ e ξ=>by rw[x.fresh a ha] at e;cases e
end
section
variable{X:Pk}
theorem oJ.with{f:Addr}{F:Fn}{fd body}(ok:oJ X f F fd body)(B:Addr→Prop):oJ (X.with B) f F fd body:=⟨ok.at_,ok.bd,ok.code,ok.glob,ok.blt,ok.kind,ok.co,ok.gen,ok.tr,ok.nv,ok.np,ok.nd,ok.bind,ok.names⟩
theorem BQ.with{f:Addr}{F:Fn}(h:BQ X f F)(B:Addr→Prop):BQ (X.with B) f F:=h.casesOn λfd body ok h1 h2 h3=>⟨fd,body,ok.with B,h1,h2,h3⟩
theorem CS.with{f:Addr}{F:Fn}(h:CS X f F)(B:Addr→Prop):CS (X.with B) f F:=h.imp (λh=>h.with B) λh=>h.casesOn λfd body c cda ar file es ok q e=>⟨fd,body,c,cda,ar,file,es,ok.with B,⟨q.free,q.cell,q.clo,q.cls,q.arg,q.arg2,q.code,q.codeAt,q.same,q.sup,q.kcls,q.np⟩,e⟩
theorem KnownN.with(Kn:KnownN X)(B:Addr→Prop):KnownN (X.with B):=
 {mods:=Kn.mods,get:=Kn.get,has:=Kn.has,fld:=Kn.fld,set:=Kn.set,over:=Kn.over,blt:=Kn.blt,cls:=Kn.cls,
  sup:=⟨Kn.sup.glob,Kn.sup.blt,Kn.sup.cls,Kn.sup.sub,Kn.sup.thr,Kn.sup.base.elim λpf q=>⟨pf,q.1,q.2.1,q.2.2.1,q.2.2.2.with B⟩⟩,
  fn:=λp h=>(Kn.fn p h).elim λf q=>⟨f,q.1,q.2.1,q.2.2.with B⟩,meth:=λp h=>(Kn.meth p h).elim λf q=>⟨f,q.1,q.2.1,q.2.2.1,q.2.2.2.with B⟩}
end
inductive ItP(X:Pk)(φ:List Addr)(w:W)(s:Shared)(i:It)(w':W)(itv:Value)(s2:Shared):Prop
 |mk (φ1:List Addr) (sA:Shared) (B:Addr→Prop) (I:Addr) (js:List Addr):itv=.ref I→fR X no φ w s φ1 w' sA→jG X B js φ1 sA s2 I i→ItP X φ w s i w' itv s2
noncomputable def pB(X:Pk)(r:Nat)(e:Ie)(ρ:List V)(w:W)(i:It)(w':W):Prop:=
 ∀py sc ns,TrI sc ns py e→∀S env φ s A,Fr X r S φ env sc ns ρ w s A→WP X A (eval py env) (λx s1=>WP X A (pyIter x) (ItP X φ w s i w') s1) s
section
variable{X:Pk}{r:Nat}{ρ ρ1 ρ2:List V}{w w1 w2 w3:W}
theorem TrI.fold{sc:Scope}{ns:List Str}{py:Expr}{e:Ie}(h:TrI sc ns py e)(env:Env)(x:Value):foldedSetIterable py env x=pure x:=by
 cases e with
 |rng1 a=>exact(iO (TH h)).fold _ _
 |rng2 a b=>exact(iO (TG h)).fold _ _
 |zip a b c=>exact(iO (Xg h)).fold _ _
 |of e=>exact(Tr.plain (rOf h)).fold _ _
theorem vV(X:Pk):X.with (λξ=>False)=X:=by unfold Pk.with;simp
theorem jG.one{φ:List Addr}{s:Shared}{it:It}(C:Cst X φ w s){o:Obj}(ho:o.isFreed=false){vs:Array Value}(hd:o.data=.fields vs)(hx:mF X φ (s.heap.push o) s.heap.objs.size [s.heap.objs.size] it) :
  jG X (λξ=>False) [s.heap.objs.size] φ s {s with heap:=s.heap.push o} s.heap.objs.size it:=by
 have n:=iA s.heap
 refine⟨λb o' e=>aR _ e,rfl,rfl,λa ha=>by rw[aG.mp ha];exact n,λa q=>q.elim,by rw[vV];exact hx,λa ha=>?_⟩
 rw[aG.mp ha]
 exact(oU hd).ownJ (C.notMem n) (C.notBase n) (aW _ ho) λv e=>by rw[hd] at e;cases e
theorem ItP.one{φ φ1:List Addr}{s s1:Shared}{it:It}(T:fR X no φ w s φ1 w1 s1){o:Obj}(ho:o.isFreed=false){vs:Array Value}(hd:o.data=.fields vs)(hx:mF X φ1 (s1.heap.push o) s1.heap.objs.size [s1.heap.objs.size] it) :
  ItP X φ w s it w1 (.ref s1.heap.objs.size) {s1 with heap:=s1.heap.push o}:=⟨φ1,s1,_,_,_,rfl,T,jG.one T.cst ho hd hx⟩
noncomputable def VQ(w:W)(v:V):Option It:=V.casesOn (motive_1:=λξ=>Option It) v none none (λξ=>none) (λξ=>none) (λξ=>none) (λds=>some (.tup ds 0)) (λn=>(iS w (.ref n)).map λξ=>.cell n 0) λξ ξ=>none
theorem pB.val{e:Ex}{d:V}{i:It}(h:Ev X r e ρ w d w1)(hi:VQ w1 d=some i):pB X r (.of e) ρ w i w1:=λpy sc ns ht S env φ s A F=>h.use (rOf ht) F λφ1 s1 v T1 r1 F1=>by
 cases d with
 |tup ds =>
  rw[←Option.some.inj hi]
  refine r1.tup_inv.casesOn λt n vs ho rs hb hl=>?_
  have up:∀b o,s1.heap.get? b=some o→(s1.heap.push {cls:=.type "tuple_iterator",data:=.fields #[.ref t,.int 0 0]}).get? b=some o:=λb o e=>aR _ e
  exact iter_tuple (items:=vs.toArray) ⟨_,ho,rfl,n,rfl⟩ (ItP.one T1 rfl rfl ⟨rfl,t,n,vs,⟨_,aW _ rfl,rfl,rfl⟩,up _ _ ho,hb,rs.kept (cA _) up⟩)
 |ref n =>
  obtain⟨ds,h1,h2⟩:=bE.mp (show(iS w1 (.ref n)).map (λξ=>It.cell n 0)=some i from hi)
  rw[←h2]
  refine r1.ref_inv.casesOn λl e1=>?_
  cases jI h1 with
  |mk _ hn=>exact(gL F1.C hn e1).casesOn λk vs ho rs hl=>wpAny_pyIter_list (items:=vs.toArray) ⟨_,ho,rfl,k,rfl⟩ (ItP.one T1 rfl rfl ⟨rfl,l,⟨_,aW _ rfl,rfl,rfl⟩,e1⟩)
 |_=>cases hi
theorem St1.fors{t:Tg}{it:Ie}{b:Bk}{i:It}{o:Out}(h1:pB X r it ρ w i w1)(h2:∀B,vT (X.with B) r t b i ρ w1 ρ2 o w2):St1 X r (.fors t it b) ρ w ρ2 o w2:=λpy sc ns ht S env φ s A F=>(HI (UZ ht)).casesOn λt0 it0 a u p z=>by
 rw[cF.mp (and2 z).1]
 have ha:TrT sc ns t0 t:=(and2 (and2 z).2).1
 have hx:TrI sc ns it0 it:=(and2 (and2 (and2 z).2).2).1
 have hy:TrB sc ns a b:=(and2 (and2 (and2 z).2).2).2
 refine wpAny_For ((h1 _ _ _ hx _ _ _ _ _ F).mono λv s1 hv=>WP.mono hv λitv s2 q=>q.casesOn λφ1 sA B I js e T1 St=>?_) (hx.fold env)
 rw[e]
 have RA:=F.R.step F.C T1
 have C2:=St.cst T1.cst
 refine codeAny_mono (h2 B _ _ _ _ ha hy S env φ1 w1 s2 φ1 s2 A I js ⟨fR.refl C2,⟨St.toEnv RA,C2,F.M⟩,St.apart RA,St.at_,St.own⟩) λres s3 hres=>?_
 cases res with
 |error e=>exact hres.elim
 |ok f =>
  refine Fw.casesOn hres λφ3 s4 T3 R3 O3 OO E=>?_
  have Tg:fR X (λa=>S a∨a∈js) φ w s φ1 w1 s2:=T1.up.trans (fR.grow (s':=s2) T1.cst St.kept St.gens St.os).up
  have Tg':fR (X.with B) (λa=>S a∨a∈js) φ w s φ1 w1 s2:=⟨Tg.pre,Tg.len,C2,Tg.keep,Tg.newf,Tg.alive,Tg.mono⟩
  obtain⟨TE,K⟩:=fR.ended (X:=X) F.C (Tg'.trans T3) (λa ha=>sJ (T1.alive a) (St.fresh a ha)) OO ⟨E.gens,E.os,E.kept⟩
  have RE:fW (X.with B) S φ3 env sc ns _ s3.heap:=R3.iter OO (St.apart RA) E.kept
  exact⟨φ3,TE,O3.imp λv d q=>nN _ _ (q.keeps K),RE.chg (X':=X) rfl nN⟩
end
noncomputable def LM(op:Operator)(m n:Int):Int:=if op=.Add then m+n else m-n
section
variable{X:Pk}{r:Nat}{ρ ρ1 ρ2:List V}{w w1 w2 w3 w4:W}
theorem St1.aug{o i e:Ex}{op:Operator}{a x:V}{m n:Int}(h1:Ev X r o ρ w a w1)(h2:Ev X r i ρ w1 x w2)(h3:Itm X r a x w2 (.int m))(h4:Ev X r e ρ w2 (.int n) w3)(hop:op=.Add∨op=.Sub)(h5:Sto X r a x (.int (LM op m n)) w3 w4):St1 X r (.aug o i op e) ρ w ρ .go w4:=λpy sc ns ht S env φ s A F=>(HK (XT ht)).casesOn λt op' e0 p z=>by
 rw[of_decide_eq_true (and2 z).1]
 have y3:Tr sc ns e0 e:=(and2 (and2 z).2).1
 refine(jQ (and2 (and2 z).2).2).casesOn λv0 i0 q z=>?_
 have y1:Tr sc ns v0 o:=(and2 z).1
 have y2:Tr sc ns i0 i:=(and2 z).2
 refine wpAny_AugAssign_Subscript_any (h1.use y1 F λφ1 s1 u T1 r1 F1=>h2.use y2 F1 λφ2 s2 v T2 r2 F2=>WP.mono (h3 φ2 s2 A u v (r1.step F1.C T2) r2 F2.C F2.M).2 λzv s3 q=>q.casesOn λφ3 T3 r3=>?_) (Tr.plain y2).aug
 have F3:=F2.step T3
 refine h4.use y3 F3 λφ4 s4 t T4 r4 F4=>(r3.step F3.C T4).int_inv.casesOn λt1=>r4.int_inv.casesOn λt2=>?_
 have fin:∀(k:Int),LM op m n=k→WP X A (setItem u v (.int k s4.toks)) (λξ s'=>StP X S env sc ns φ w s ρ .go w4 .next s') {s4 with toks:=s4.toks+1}:=λk hk=>by
  rw[←hk]
  have T4':=T4.toks (s4.toks+1)
  refine WP.mono (h5 φ4 _ A u v _ (((r1.step F1.C T2).step F2.C T3).step F3.C T4') ((r2.step F2.C T3).step F3.C T4') (.int _ _) T4'.cst F4.M) λξ s5 q=>q.casesOn λφ5 T5=>?_
  exact⟨φ5,((((T1.trans T2).trans T3).trans T4').trans T5).up,rfl,(F3.R.step F3.C T4').step T4'.cst T5⟩
 rcases hop with rfl | rfl
 ·exact wpAny_iadd_int (fin _ rfl)
 ·exact PySem.P.isub_int (fin _ rfl)
theorem Tst.cmp2{a b c:Ex}{o1 o2:CmpOp}{x y z:V}{t u:Bool}(h1:Ev X r a ρ w x w1)(h2:Ev X r b ρ w1 y w2)(h3:Cmp X r o1 x y w2 t w2)(h4:t=true→Ev X r c ρ w2 z w3∧Cmp X r o2 y z w3 u w3)(h5:t=false→u=false∧w3=w2) :
  Tst X r (.cmp2 a o1 b o2 c) ρ w u w3:=λpy sc ns ht S env φ s A F=>(AR (ZS ht)).casesOn λl0 cs pos0 p q=>(AQ q).casesOn λe1 e2 q q'=>by
 show wpAny (model P X.w) A (do let a ←eval l0 env;testChain pos0 a [o1,o2] [eval e1 env,markedBehindIn o2 e2 (eval e2 env)]) _ _ _
 rw[markedBehindIn_of_false ((Tr.plain q').mark _)]
 refine wpAny_bind (h1.use p F λφ1 s1 xv T1 r1 F1=>?_)
 show wpAny (model P X.w) A (do let rv ←holding [xv] (eval e1 env);standAt pos0;let c ←holding [xv,rv] (compareOp o1 xv rv);release [xv,rv] [c];if ←holding [c,rv] (truthy c) then testChain pos0 rv [o2] [eval e2 env] else pure false) _ _ _
 refine wpAny_bind (wpAny_holding (h2.use q F1 λφ2 s2 yv T2 r2 F2=>wpAny_bind (wpAny_standAt (wpAny_bind (wpAny_holding (h3.use F2 (r1.step F1.C T2) r2 λφ3 s3 cv T3 r3 F3=>?_))))))
 rw[r3.bool_inv]
 refine wpAny_bind (wpAny_release (wpAny_bind (wpAny_holding (wpAny_truthy_bool ?_))))
 have T123:=(T1.trans T2).trans T3
 cases t with
 |false =>
  obtain⟨rfl,rfl⟩:=h5 rfl
  exact wpAny_pure ⟨φ3,T123,rfl⟩
 |true =>
  obtain⟨h4,h6⟩:=h4 rfl
  show wpAny (model P X.w) A (do let rv ←holding [yv] (eval e2 env);standAt pos0;let c ←operate [yv,rv] (compareOp o2 yv rv);holding [c] (truthy c)) _ _ _
  refine wpAny_bind (wpAny_holding (h4.use q' F3 λφ4 s4 zv T4 r4 F4=>wpAny_bind (wpAny_standAt (wpAny_bind (wpAny_operate' (h6.use F4 ((r2.step F2.C T3).step F3.C T4) r4 λφ5 s5 dv T5 r5 F5=>?_))))))
  rw[r5.bool_inv]
  exact wpAny_holding (wpAny_truthy_bool ⟨φ5,(T123.trans T4).trans T5,rfl⟩)
noncomputable def jC(a b:Int):Bool:=decide (-1000000≤a∧a≤1000000∧-1000000≤b∧b≤1000000)
noncomputable def sR(a b:Int):List V:=(aX (b-a).toNat).map λ(k:Nat)=>V.int (a+(k:Int))
theorem EO{a b:Int}(h:jC a b=true):Builtin.Range.small a b 1=true∧Builtin.Range.rangeSize a b 1=((b-a).toNat:Int)∧(b-a).toNat≤2000000:=by
 have h:=of_decide_eq_true h
 have hs:Builtin.Range.rangeSize a b 1=((b-a).toNat:Int):=by
  unfold Builtin.Range.rangeSize
  simp only[show(1:Int)>0 from by decide,if_true]
  by_cases q:a<b
  ·rw[if_pos q,Int.ediv_one,Int.sub_add_cancel,dA (Int.sub_nonneg_of_le (fN q))]
  ·rw[if_neg q,Int.toNat_of_nonpos (Int.sub_nonpos_of_le (fG.mp q))];rfl
 have hn:(b-a).toNat≤2000000:=Ci h.2.2.2 h.1 (by decide)
 refine⟨?_,hs,hn⟩
 unfold Builtin.Range.small
 rw[hs]
 unfold Builtin.Range.rangeFitsLong
 simp only[show(1:Int)>0 from by decide,if_true]
 simp only[dE,Bool.or_eq_true,decide_eq_true_eq,beq_iff_eq]
 have wd:∀{x:Int},-1000000≤x→x≤2000000→-2^63≤x∧x<2^63:=λp q=>⟨aS (by decide) p,Int.lt_of_le_of_lt q (by decide)⟩
 exact⟨⟨⟨⟨wd h.1 (aS h.2.1 (by decide)),wd h.2.2.1 (aS h.2.2.2 (by decide))⟩,wd (by decide) (by decide)⟩,wd (aS (by decide) (bU _)) (dP.mpr hn)⟩,
  .inr ((Int.add_zero b).symm▸wd h.2.2.1 (aS h.2.2.2 (by decide)))⟩
theorem ItP.range{φ φ1:List Addr}{s s1:Shared}{A:Around}(T:fR X no φ w s φ1 w1 s1){a b:Int}(h:jC a b=true){rr:Addr}{t u v:Tok}(hr:IsRange s1.heap rr a b 1 t u v):WP X A (pyIter (.ref rr)) (ItP X φ w s (.rng a (b-a).toNat) w1) s1:=by
 obtain⟨h1,h2,_⟩:=EO h
 refine wpAny_pyIter_range hr h1 (ItP.one T rfl rfl ⟨rfl,?_⟩)
 rw[←h2]
 exact aW _ rfl
theorem FZ(Kn:KnownN X){e:Ex}{b:Int}(h:Ev X r e ρ w (.int b) w1){py sc ns S env φ s A}(ht:gC 1 (wR (.cons e .nil)) sc ns py=true)(F:Fr X r S φ env sc ns ρ w s A){Q:Value→Shared→Prop}(k:∀φ1 s1 rr t u v,fR X no φ w s φ1 w1 s1→Fr X r S φ1 env sc ns ρ w1 s1 A→IsRange s1.heap rr 0 b 1 t u v→Q (.ref rr) s1):WP X A (eval py env) Q s:=
 mQ ht F (.blt (Kn.blt 1 (by decide)).1 (Kn.blt 1 (by decide)).2) (.typ "range") (.cons h .nil) λφ1 s1 vs T1 r1 F1=>r1.one.casesOn λv a=>a.int_inv.casesOn λt=>call_range_1 (by
  have Tp:=(fR.push F1.C {cls:=.type "range",data:=.fields #[.int 0 s1.toks,.int b t,.int 1 (s1.toks+1)]}).toks (s1.toks+1+1)
  exact k φ1 _ _ _ _ _ (T1.trans Tp) (F1.step Tp) (aW _ rfl))
theorem xU(Kn:KnownN X){e f:Ex}{a b:Int}(h:Ev X r e ρ w (.int a) w1)(h2:Ev X r f ρ w1 (.int b) w2){py sc ns S env φ s A}(ht:gC 1 (wR (.cons e (.cons f .nil))) sc ns py=true)(F:Fr X r S φ env sc ns ρ w s A){Q:Value→Shared→Prop}(k:∀φ1 s1 rr t u v,fR X no φ w s φ1 w2 s1→Fr X r S φ1 env sc ns ρ w2 s1 A→IsRange s1.heap rr a b 1 t u v→Q (.ref rr) s1):WP X A (eval py env) Q s:=
 mQ ht F (.blt (Kn.blt 1 (by decide)).1 (Kn.blt 1 (by decide)).2) (.typ "range") (.cons h (.cons h2 .nil)) λφ1 s1 vs T1 r1 F1=>r1.two.casesOn λv u x y=>x.int_inv.casesOn λt=>y.int_inv.casesOn λt2=>call_range_2 (by
  have Tp:=(fR.push F1.C {cls:=.type "range",data:=.fields #[.int a t,.int b t2,.int 1 s1.toks]}).toks (s1.toks+1)
  exact k φ1 _ _ _ _ _ (T1.trans Tp) (F1.step Tp) (aW _ rfl))
theorem pB.range1(Kn:KnownN X){e:Ex}{b:Int}(h:Ev X r e ρ w (.int b) w1)(hs:jC 0 b=true):pB X r (.rng1 e) ρ w (.rng 0 b.toNat) w1:=λpy sc ns ht S env φ s A F =>
 FZ Kn h (TH ht) F λφ1 s1 rr t u v T1 F1 hr=>by
  have:=ItP.range (A:=A) T1 hs hr
  rwa [Int.sub_zero] at this
theorem pB.range2(Kn:KnownN X){e f:Ex}{a b:Int}(h:Ev X r e ρ w (.int a) w1)(h2:Ev X r f ρ w1 (.int b) w2)(hs:jC a b=true):pB X r (.rng2 e f) ρ w (.rng a (b-a).toNat) w2:=λpy sc ns ht S env φ s A F =>
 xU Kn h h2 (TG ht) F λφ1 s1 rr t u v T1 F1 hr=>ItP.range T1 hs hr
end
theorem jJ{x:Str}(b:List Str):∀(a:List Str),gK x (a++b)=match gK x b with
  |some j=>some (a.length+j)
  |none=>gK x a
 |[]=>by
  rw[List.nil_append]
  cases gK x b with
  |none=>rfl
  |some j=>simp
 |y::ys=>by
  rw[List.cons_append]
  rw[kD]
  rw[jJ b ys]
  cases h:gK x b with
  |some j=>simp only[cT];congr 1;simp_all +arith
  |none=>dsimp only;rfl
theorem uS{x:Str}:∀{l:List Str},x∈l→∃i,gK x l=some i
 |y::ys,h=>by
  rw[kD]
  cases q:gK x ys with
  |some i=>exact⟨i+1,rfl⟩
  |none =>
   rcases bJ.mp h with e | h
   ·subst e;exact⟨0,if_pos (beq_self_eq_true x)⟩
   ·obtain⟨i,hi⟩:=uS h;rw[q] at hi;cases hi
theorem lH{x:Str}:∀{l:List Str},x∉l→gK x l=none
 |[],_=>rfl
 |y::ys,h=>by
  rw[bJ,not_or] at h
  rw[kD,lH h.2]
  exact if_neg λe=>h.1 (eq_of_beq e).symm
theorem sZ{x:Str}:∀{l:List Str} {i:Nat},l.Nodup→l[i]?=some x→gK x l=some i
 |y::ys,0,hn,h=>by
  simp at h;subst h
  rw[cZ] at hn
  rw[kD,lH hn.1];exact if_pos (beq_self_eq_true _)
 |y::ys,i+1,hn,h=>by
  rw[cZ] at hn
  rw[kD,sZ hn.2 (i:=i) (by simpa using h)]
 |[],i,_,h=>nomatch h
theorem xM{α β:Type}(g:Str→α→β)(x:Str):∀(l:List (Str×α)),(l.map λp=>(p.1,g p.1 p.2)).lookup x=(l.lookup x).map (g x)
 |[]=>rfl
 |(n,k)::r=>by
  rw[aY,dC,dC]
  cases h:x==n with
  |true=>rw[eq_of_beq h];rfl
  |false=>exact xM g x r
theorem zV(scope:Scope)(env:Env)(x:Str):(relabel scope env).names.lookup x=(scope.names.lookup x).map λk=>if(k==NameKind.free&&env.scope.kind==.function&&env.kindOf x==some .cell) then NameKind.cell else k:=by
 rw[←xM (λx k=>if(k==NameKind.free&&env.scope.kind==.function&&env.kindOf x==some .cell) then NameKind.cell else k)]
 unfold relabel
 dsimp only
 congr 1
 refine fB λp ξ=>?_
 obtain⟨n,k⟩:=p
 dsimp only
 split<;>rfl
theorem tY(x:Str)(k:NameKind)(r:List (Str×NameKind))(n:Nat)(acc:List (Str×Addr)):cellsFrom n ((x,k)::r) acc=if k==.cell then cellsFrom (n+1) r ((x,n)::acc) else cellsFrom n r acc:=rfl
theorem kP:∀(names:List (Str×NameKind)) (n:Nat) (acc:List (Str×Addr)),cellsFrom n names acc=cellsFrom n names []++acc
 |[],n,acc=>rfl
 |(x,k)::r,n,acc=>by
  rw[tY,tY]
  by_cases q:(k==NameKind.cell)=true
  ·rw[if_pos q,if_pos q,kP r (n+1) ((x,n)::acc),kP r (n+1) [(x,n)]];simp
  ·rw[if_neg q,if_neg q];exact kP r n acc
theorem pD:∀(names:List (Str×NameKind)) (n:Nat) (x:Str) (c:Addr),(x,c)∈cellsFrom n names []→(x,NameKind.cell)∈names
 |[],n,x,c,h=>nomatch (show(x,c)∈[] from h)
 |(y,k)::r,n,x,c,h=>by
  rw[tY] at h
  by_cases q:(k==NameKind.cell)=true
  ·rw[if_pos q,kP] at h
   rcases bQ.mp h with h | h
   ·exact bA _ (pD r _ x c h)
   ·simp only[aG,Prod.mk.injEq] at h
    rw[h.1,eq_of_beq q];exact aZ
  ·rw[if_neg q] at h;exact bA _ (pD r _ x c h)
theorem Ek{M:Model}{A:Around}{E:Value→Shared→Prop}{s:Shared}{scope:Scope}{globals:Addr}{cl:List (Str×Addr)}{qual:Str}{env:Env}{Q:Env→Shared→Prop}(hQ:∀h',(∀b o,s.heap.get? b=some o→h'.get? b=some o)→h'.Ns s.heap.objs.size (λξ=>none)→CellsOk h' (s.heap.objs.size+1) (cellsFrom (s.heap.objs.size+1) scope.names []) →
   Q (newEnv scope s.heap.objs.size globals (cellsFrom (s.heap.objs.size+1) scope.names []++cl) qual none .none (some env) builtinsNs) {s with heap:=h'}) :
  wpAny M A (newFunctionEnv scope globals cl [] qual none .none (some env)) Q E s:=by
 simp only[newFunctionEnv,Option.isSome_some,if_true]
 refine wpAny_bind (wpAny_alloc ?_)
 refine wpAny_bind (wpAny_layCells _ (λname kind cells=>by cases hkc:kind==NameKind.cell<;>simp[hkc]) _ _ _ _ ?_)
 have ok:=cellsFrom_ok scope.names (s.heap.push {cls:=.type "dict",data:=.dict #[]}) (s.heap.objs.size+1) [] ⟨λξ ξ hm=>(nomatch hm),List.Pairwise.nil⟩ (by rw[dX];exact aO _)
 rw[dX] at ok
 rw[show({s with heap:=s.heap.push {cls:=.type "dict",data:=.dict #[]}}:Shared).heap.objs.size=s.heap.objs.size+1 from dX ..]
 rw[kP]
 refine wpAny_bind (wpAny_pure (wpAny_pure ?_))
 exact hQ _ (λb o e=>pushCells_keeps _ _ b o (aR _ e)) ((Heap.Ns.new s.heap (.type "dict")).keeps (pushCells_keeps _ _)) ok
theorem qH(env:Env):∀(l:List (Str×NameKind)) (acc:List (Str×Addr)),(∀x,(x,NameKind.free)∈l→(env.cells.lookup x).isSome=true) →
  ∃cl,(forIn l acc λ(p:Str×NameKind) (cs:List (Str×Addr))=>(if p.2==.free then(do let c ←cellOf env p.1;pure (.yield ((p.1,c)::cs))) else pure (.yield cs):Sem (ForInStep (List (Str×Addr)))))=pure cl ∧
   (∀x c,(x,c)∈cl→(x,c)∈acc∨((x,NameKind.free)∈l∧env.cells.lookup x=some c))∧(∀x,(x,NameKind.free)∈l→∃c,(x,c)∈cl)∧(∀p∈acc,p∈cl)
 |[],acc,_=>⟨acc,rfl,λx c h=>.inl h,λx h=>by simp at h,λp h=>h⟩
 |(y,k)::r,acc,h=>by
  rw[List.forIn_cons]
  by_cases q:(k==NameKind.free)=true
  ·have hy:=h y (by rw[←eq_of_beq q];exact aZ)
   obtain⟨c,hc⟩:=cW.mp hy
   obtain⟨cl,h1,h2,h4,h5⟩:=qH env r ((y,c)::acc) λx hx=>h x (bA _ hx)
   have hco:cellOf env y=pure c:=by unfold cellOf;rw[hc]
   refine⟨cl,?_,λx c' hm=>?_,λx hx=>?_,λp hp=>h5 p (bA _ hp)⟩
   ·dsimp only
    rw[if_pos q,hco]
    simpa using h1
   ·rcases h2 x c' hm with h3 | h3
    ·rcases bJ.mp h3 with e | h3
     ·cases e;exact .inr ⟨by rw[←eq_of_beq q];exact aZ,hc⟩
     ·exact .inl h3
    ·exact .inr ⟨bA _ h3.1,h3.2⟩
   ·rcases bJ.mp hx with e | hx
    ·cases e;exact⟨c,h5 _ aZ⟩
    ·exact h4 x hx
  ·obtain⟨cl,h1,h2,h4,h5⟩:=qH env r acc λx hx=>h x (bA _ hx)
   refine⟨cl,?_,λx c' hm=>?_,λx hx=>?_,h5⟩
   ·dsimp only
    rw[if_neg q]
    simpa using h1
   ·rcases h2 x c' hm with h3 | h3
    ·exact .inl h3
    ·exact .inr ⟨bA _ h3.1,h3.2⟩
   ·rcases bJ.mp hx with e | hx
    ·cases e;exact(q rfl).elim
    ·exact h4 x hx
theorem yH{scope:Scope}{env:Env}(h:∀x,(x,NameKind.free)∈scope.names→(env.cells.lookup x).isSome=true) :
  ∃cl,closureFor scope env=pure cl∧(∀x c,(x,c)∈cl→(x,NameKind.free)∈scope.names∧env.cells.lookup x=some c)∧(∀x,(x,NameKind.free)∈scope.names→∃c,(x,c)∈cl):=by
 obtain⟨cl,h1,h2,h3,_⟩:=qH env scope.names [] h
 refine⟨cl,?_,λx c hm=>(h2 x c hm).resolve_left (by simp),h3⟩
 unfold closureFor
 simp only[bind_pure]
 rw[←h1]
 try congr 1
noncomputable def HA(sc':Scope)(C:Addr)(cells:List (Str×Addr))(env:Env):Env:={newEnv sc' C env.globals cells env.qual none .none (some env) builtinsNs with scope:=relabel sc' env}
structure Hi(sc:Scope)(own:List Str)(sc':Scope):Prop where
 kind:sc'.kind=.function
 names:∀p∈sc'.names,sc'.names.lookup p.1=some p.2
 mine:∀x∈own,sc'.names.lookup x=some .local∨sc'.names.lookup x=some .cell
 loc:∀x,sc'.names.lookup x=some .local→x∈own∨(x==(".0" : Str))=true
 cel:∀x,sc'.names.lookup x=some .cell→x∈own
 fre:∀x,sc'.names.lookup x=some .free→(sc.names.lookup x=some .cell∨sc.names.lookup x=some .free)∧x∉own
 nd:own.Nodup
 odd:∀x∈own,(x==(".0" : Str))=false∧(x==("__debug__" : Str))=false∧(x==("__classdict__" : Str))=false
theorem Gj{a b:Bool}(h:(!a||b)=true)(k:a=true):b=true:=by rw[k] at h;exact h
theorem DB{a:Bool}(h:(!a)=true):a=false:=(dU a).mp h
theorem Ah{sc:Scope}{own:List Str}{sc':Scope}(h:Gw sc own sc'=true):Hi sc own sc':=by
 have h1:=(and2 h).1
 have h2:=λp (hp:p∈sc'.names)=>and2 (cC.mp (and2 (and2 h).2).1 p hp)
 have h3:=λx (hx:x∈own)=>and2 (cC.mp (and2 (and2 (and2 h).2).2).1 x hx)
 have h4:=(and2 (and2 (and2 h).2).2).2
 refine⟨of_decide_eq_true h1,λp hp=>of_decide_eq_true (h2 p hp).1,λx hx=>(cR.mp (h3 x hx).1).imp of_decide_eq_true of_decide_eq_true,λx hx=>?_,λx hx=>?_,λx hx=>?_,of_decide_eq_true h4,
  λx hx=>⟨DB (and2 (h3 x hx).2).1,DB (and2 (and2 (h3 x hx).2).2).1,DB (and2 (and2 (h3 x hx).2).2).2⟩⟩
 ·have q:=Gj (and2 (h2 _ (mem_of_lookup hx)).2).1 (decide_eq_true rfl)
  exact(cR.mp q).imp List.contains_iff_mem.mp id
 ·have q:=Gj (and2 (and2 (h2 _ (mem_of_lookup hx)).2).2).1 (decide_eq_true rfl)
  exact List.contains_iff_mem.mp q
 ·have q:=and2 (Gj (and2 (and2 (h2 _ (mem_of_lookup hx)).2).2).2 (decide_eq_true rfl))
  exact⟨(cR.mp q.1).imp of_decide_eq_true of_decide_eq_true,λm=>bC ((DB q.2).symm.trans (List.contains_iff_mem.mpr m))⟩
theorem Bj{N:Nat}{own ns:List Str}{ρ:List V}(hl:ρ.length=ns.length){x:Str}{i:Nat}{d:V}(hx:x∈own)(h1:gK x (ns++own)=some i)(h2:(ρ++aV N V.unset)[i]?=some d):d=.unset:=by
 obtain⟨j,hj⟩:=uS hx
 rw[jJ,hj] at h1
 rw[←Option.some.inj h1,←hl,bP (dG _ _),List.getElem?_replicate] at h2
 split at h2
 ·exact(Option.some.inj h2).symm
 ·cases h2
inductive Tz(X:Pk)(φ:List Addr)(h:Heap)(env:Env)(ns:List Str)(ρ:List V)(x:Str)(c:Addr):Prop
 |mk (v:Option Value):env.cells.lookup x=some c→h.IsCell c v→(∀i d,gK x ns=some i→ρ[i]?=some d→mU X φ h v d)→Tz X φ h env ns ρ x c
theorem fW.comp{X:Pk}{S:Addr→Prop}{φ:List Addr}{w:W}{s:Shared}{env:Env}{sc sc':Scope}{ns own:List Str}{ρ:List V}{cl:List (Str×Addr)}{h':Heap}(R:fW X S φ env sc ns ρ s.heap)(C:Cst X φ w s)(ok:Hi sc own sc')(kp:∀b o,s.heap.get? b=some o→h'.get? b=some o)(hns:h'.Ns s.heap.objs.size (λξ=>none))(hc:CellsOk h' (s.heap.objs.size+1) (cellsFrom (s.heap.objs.size+1) sc'.names []))(h1:∀x c,(x,c)∈cl→(x,NameKind.free)∈sc'.names∧env.cells.lookup x=some c)(h2:∀x,(x,NameKind.free)∈sc'.names→∃c,(x,c)∈cl) :
  fW X (λa=>a=s.heap.objs.size∨∃x,(cellsFrom (s.heap.objs.size+1) sc'.names []).lookup x=some a) φ (HA sc' s.heap.objs.size (cellsFrom (s.heap.objs.size+1) sc'.names []++cl) env) sc' (ns++own) (ρ++aV own.length .unset) h':=by
 have K:kJ X φ φ s.heap h':=.all (cA _) kp
 have hk:∀x,(HA sc' s.heap.objs.size (cellsFrom (s.heap.objs.size+1) sc'.names []++cl) env).kindOf x=(sc'.names.lookup x).map λk=>if(k==NameKind.free&&env.scope.kind==.function&&env.kindOf x==some .cell) then NameKind.cell else k:=λx=>zV sc' env x
 have clk:∀x c,cl.lookup x=some c→Tz X φ s.heap env ns ρ x c:=λx c e=>by
  obtain⟨q1,q2⟩:=h1 x c (mem_of_lookup e)
  refine(R.cell x (ok.fre x (ok.names _ q1)).1).casesOn λc' v e1 e2 ξ e4=>?_
  rw[q2] at e1
  rw[←Option.some.inj e1] at e2
  exact⟨v,q2,e2,e4⟩
 have big:∀x c,(cellsFrom (s.heap.objs.size+1) sc'.names []).lookup x=some c→s.heap.objs.size<c:=λx c e=>(hc.empty x c (mem_of_lookup e)).2
 have small:∀x c,cl.lookup x=some c→c<s.heap.objs.size:=λx c e=>(clk x c e).casesOn λv ξ q ξ=>q.lt
 generalize hA:cellsFrom (s.heap.objs.size+1) sc'.names []=A at *
 have hAc:∀x c,A.lookup x=some c→sc'.names.lookup x=some .cell:=λx c e=>ok.names _ (pD _ _ _ _ (by rw[hA];exact mem_of_lookup e))
 have look:∀x,(A++cl).lookup x=(A.lookup x).or (cl.lookup x):=λx=>List.lookup_append
 have hge:∀a,(a=s.heap.objs.size∨∃x,A.lookup x=some a)→s.heap.get? a=none:=λa ha=>tU (by
  rcases ha with rfl | ⟨x,hx⟩
  ·exact aO _
  ·exact bW (big x a hx))
 refine⟨ok.kind,R.glob,R.blt,λx e=>by rw[hk,e];rfl,λx e=>by rw[hk,e];rfl,λx e=>?_,λx e=>by rw[hk,e];rfl,by rw[aD,aD,dK,R.len],
  ⟨_,hns,λx i d h0 e1 e2 e3=>?_⟩,λx hx=>?_,λx y c e1 e2=>?_,.inl rfl,λa ha=>?_⟩
 ·rw[hk,e,eE]
  split
  ·exact .inl rfl
  ·exact .inr rfl
 ·rw[Bj R.len ((ok.loc x e1).resolve_right (by rw[h0];decide)) e2 e3];exact .unset _
 ·rcases hx with hx | hx
  ·obtain⟨c,hcx⟩:=cW.mp (cellsFrom_some (x:=x) sc'.names (s.heap.objs.size+1) [] (.inl hx))
   rw[hA] at hcx
   refine⟨c,none,by show((A++cl).lookup x)=_;rw[look,hcx];rfl,(hc.empty x c (mem_of_lookup hcx)).1,λξ=>.inr ⟨x,hcx⟩,λi d e2 e3=>?_⟩
   rw[Bj R.len (ok.cel x hx) e2 e3];exact .unset _
  ·have hno:A.lookup x=none:=by
    cases q:A.lookup x with
    |none=>rfl
    |some c=>have:=hAc x c q;rw[hx] at this;cases this
   have hcl:∃c,cl.lookup x=some c:=by
    obtain⟨c,hm⟩:=h2 x (mem_of_lookup hx)
    cases q:cl.lookup x with
    |some c'=>exact⟨c',rfl⟩
    |none=>rw[List.lookup_eq_none_iff] at q;have:=q _ hm;simp at this
   obtain⟨c,hcl⟩:=hcl
   refine(clk x c hcl).casesOn λv e1 e2 e4=>⟨c,v,by show((A++cl).lookup x)=_;rw[look,hno,hcl];rfl,e2.keeps kp,λq=>(by rw[hx] at q;cases q),λi d e5 e6=>?_⟩
   rw[jJ,lH (ok.fre x hx).2] at e5
   rw[aJ (by rw[R.len];exact(aB.mp (iY e5)).1)] at e6
   exact(e4 i d e5 e6).keeps K
 ·have e1:(A++cl).lookup x=some c:=e1
  have e2:(A++cl).lookup y=some c:=e2
  rw[look] at e1 e2
  cases q1:A.lookup x with
  |some c1 =>
   rw[q1] at e1
   cases q2:A.lookup y with
   |some c2=>rw[q2] at e2;cases e1;cases e2;exact oC hc.apart q1 q2
   |none=>rw[q2] at e2;cases e1;exact absurd (cO (big x c q1) (small y c e2)) (dR _)
  |none =>
   rw[q1] at e1
   cases q2:A.lookup y with
   |some c2=>rw[q2] at e2;cases e2;exact absurd (cO (big y c q2) (small x c e1)) (dR _)
   |none =>
    rw[q2] at e2
    exact(clk x c e1).casesOn λξ z1 ξ ξ=>(clk y c e2).casesOn λξ z2 ξ ξ=>R.apart x y c z1 z2
 ·have q:∃o,h'.get? a=some o∧yJ o:=by
   rcases ha with rfl | ⟨x,hx⟩
   ·obtain⟨o,es,ep,e,hd,_⟩:=hns;exact⟨o,e,nO hd⟩
   ·obtain⟨o,e,hd⟩:=(hc.empty x a (mem_of_lookup hx)).1;exact⟨o,e,wH hd⟩
  exact q.elim λo q=>⟨o,C.notMem (hge a ha),C.notBase (hge a ha),q.1,q.2⟩
noncomputable def vS(X:Pk)(S:Addr→Prop)(h:Heap):Prop:=∀a o,S a→h.get? a=some o→(X.ban a∨∀its n,o≠lV its n)∧∀C dx,o≠instObj C dx
structure Acc(X:Pk)(φ:List Addr)(h:Heap)(D:Addr)(acc:List V):Prop where
 at_:xF X φ h D acc
 out:D∉φ
 new:X.h0.get? D=none
section
variable{X:Pk}{S:Addr→Prop}{φ φ':List Addr}{w w':W}{s s':Shared}
theorem vS.kept(hS:vS X S s.heap)(C:Cst X φ w s)(T:fR X S φ w s φ' w' s'):kJ X φ φ' s.heap s'.heap:=
 ⟨T.pre,λa n its e hb=>T.keep a _ e (nT C e tQ) λq=>(hS a _ q e).1.elim hb λz=>z _ _ rfl,λa C' dx e=>T.keep a _ e (nT C e qZ) λq=>(hS a _ q e).2 _ _ rfl⟩
theorem vS.ofEnv{env:Env}{sc:Scope}{ns:List Str}{ρ:List V}(R:fW X S φ env sc ns ρ s.heap):vS X S s.heap:=λa o ha e=>(R.ownOk a ha).casesOn λo' ξ ξ e' m=>by
 rw[e] at e';rw[Option.some.inj e'];exact⟨.inr m.tup,m.inst⟩
theorem vS.own{js:List Addr}{h:Heap}(O:jM X φ h js):vS X (λa=>a∈js) h:=λa o ha e=>(O a ha).casesOn λo' ξ ξ e' h1 h2 ξ=>by
 rw[e] at e';rw[Option.some.inj e'];exact⟨h1,h2⟩
theorem Bm{its:Array Value}{n:Nat}:yJ (listOf its n):=⟨λξ ξ e=>(by simp at e),λξ ξ e=>(by cases e)⟩
theorem Acc.owned{h:Heap}{D:Addr}{acc:List V}(x:Acc X φ h D acc):jM X φ h [D]:=λa ha=>x.at_.casesOn λn vs e ξ ξ=>by
 rw[aG.mp ha];exact Bm.ownJ x.out x.new e λv q=>by cases q
theorem mF.keep2{I:Addr}{js:List Addr}{it:It}(C:Cst X φ w s)(T:fR X S φ w s φ' w' s')(hS:vS X S s.heap)(O:jM X φ s.heap js)(hJ:∀a,a∈js→¬S a)(x:mF X φ s.heap I js it):mF X φ' s'.heap I js it∧jM X φ' s'.heap js:=
 have kp:∀a,a∈js→∀o,s.heap.get? a=some o→s'.heap.get? a=some o:=λa ha o e=>(O a ha).casesOn λξ h1 ξ ξ ξ ξ ξ=>T.keep a o e (gQ h1) (hJ a ha)
 ⟨x.keeps (hS.kept C T) kp,O.keep kp λa e q=>T.mem_back q e⟩
theorem Acc.keep2{D:Addr}{acc:List V}(C:Cst X φ w s)(T:fR X S φ w s φ' w' s')(hS:vS X S s.heap)(hD:¬S D)(x:Acc X φ s.heap D acc):Acc X φ' s'.heap D acc:=x.at_.casesOn λn vs e r l =>
 ⟨⟨n,vs,T.keep _ _ e (gQ x.out) hD,r.keeps (hS.kept C T),l⟩,λq=>x.out (T.mem_back q (iB e)),x.new⟩
theorem Acc.push{D:Addr}{acc:List V}{A:Around}{v:Value}{d:V}(C:Cst X φ w s)(x:Acc X φ s.heap D acc)(hl:acc.length<lim)(rv:Rep X φ s.heap v d){Q:Value→Shared→Prop}(h:∀h',fR X (λa=>a∈[D]) φ w s φ w {s with heap:=h'}→Acc X φ h' D (acc++[d])→(∀b o,¬b∈[D]→s.heap.get? b=some o→h'.get? b=some o)→Q .none {s with heap:=h'}) :
  WP X A (call (.builtin "list.append") [.ref D,v]) Q s:=x.at_.casesOn λk us ho rs l=>by
 refine call_meets PySem.F.slot_list_append ⟨_,ho,rfl⟩ PySem.F.entry_list_append (PySem.F.args_list_append_2 _ _) (PySem.list_append D us.toArray k v (kL rs.len l)) ⟨ho,?_⟩
 have e':(s.heap.update D (Obj.mapSeq λx=>x.push v)).get? D=some _:=dL _ ho rfl
 have hk:∀b o,¬b∈[D]→s.heap.get? b=some o→(s.heap.update D (Obj.mapSeq λx=>x.push v)).get? b=some o:=λb o hb e=>by
  rw[fE _ _ (λq=>hb (aG.mpr q.symm))];exact e
 have K:=x.owned.kept hk
 refine h _ (fR.iter (s':={s with heap:=_}) C x.owned hk (λb hb=>by rw[aG.mp hb];exact iB e') rfl rfl) ⟨⟨_,us++[v],by rw[e'];simp[Obj.mapSeq];rfl,(rs.keeps K).app (.cons (rv.keeps K) .nil),by rw[aD,bI];exact hl⟩,x.out,x.new⟩ hk
end
noncomputable def Pi(E:Expr)(d:Nat)(pt iter:Expr)(pifs:List Expr)(pelt:Expr):Prop:=
 (∃gens sc pos,E=.ListComp pelt gens sc pos)∧∀it acc env,compTurn E d it acc env=(do
   standAt iter.pos
   match ←pyNext it with
   |none=>pure (.done .next)
   |some v =>
    letOwnedTupleGo pt it v
    assign pt env v
    let mut ok:=true
    for c in pifs do
     if ok then ok ←isTrue c env (eval c env)
    if ok then
     (do let _ ←call (.builtin "list.append") [acc,←eval pelt env])
    again (.compLoop E d it acc env))
theorem CK{X:Pk}{A:Around}{E:Expr}{d:Nat}{pt iter pelt:Expr}{pifs:List Expr}{it acc:Value}{env:Env}{R:Result→Shared→Prop}{s:Shared}(hT:Pi E d pt iter pifs pelt)(h:wpAny (model P X.w) A (pyNext it) (λr s₁=>match r with
   |none=>R (.ok .next) s₁
   |some v=>wpAny (model P X.w) A (letOwnedTupleGo pt it v) (λξ s₁'=>wpAny (model P X.w) A (assign pt env v) (λ_ s₂ =>
     wpAny (model P X.w) A (forIn pifs true λc r=>if r=true then do let ok ←isTrue c env (eval c env);pure (ForInStep.yield ok) else pure (ForInStep.yield r)) (λok s₃ =>
      if ok=true then wpAny (model P X.w) A (eval pelt env) (λx s₄ =>
       wpAny (model P X.w) A (call (.builtin "list.append") [acc,x]) (λξ s₅=>codeAny (model P X.w) A (.compLoop E d it acc env) R s₅) nor s₄) nor s₃
      else codeAny (model P X.w) A (.compLoop E d it acc env) R s₃) nor s₂) nor s₁') nor s₁) nor s) :
  codeAny (model P X.w) A (.compLoop E d it acc env) R s:=by
 refine codeAny_of_tree ?_
 have hu:A.under (.compLoop E d it acc env)=A:=by
  obtain⟨⟨gens,sc,pos,rfl⟩,_⟩:=hT
  exact Around.under_of_weight rfl
 have hq:(Code.compLoop E d it acc env).quiet=true:=by
  obtain⟨⟨gens,sc,pos,rfl⟩,_⟩:=hT
  rfl
 rw[hu]
 have hden:(model P X.w).den (.compLoop E d it acc env)=((compTurn E d it acc env).onRaise (λx=>do noteFrame x env;theTreesLotGoes x)):=by
  obtain⟨⟨gens,sc,pos,rfl⟩,_⟩:=hT
  rfl
 rw[hden]
 show wpAny _ A ((compTurn E d it acc env).onRaise (λx=>do noteFrame x env;theTreesLotGoes x)) _ _ s
 refine wpAny_noted ?_
 rw[hT.2]
 refine wpAny_bind (wpAny_standAt (wpAny_bind (wpAny_mono h (λr s₁ h₁=>?_) λξ ξ h'=>h'.elim)))
 cases r with
 |none=>exact wpAny_pure h₁
 |some v =>
  refine wpAny_bind (wpAny_mono h₁ (λξ s₁' h₁'=>?_) λξ ξ h'=>h'.elim)
  refine wpAny_bind (wpAny_mono h₁' (λξ s₂ h₂=>wpAny_bind (wpAny_mono h₂ (λok s₃ h₃=>?_) λξ ξ h'=>h'.elim)) λξ ξ h'=>h'.elim)
  cases ok with
  |false=>exact wpAny_pure ⟨hq,h₃⟩
  |true =>
   exact wpAny_bind (wpAny_bind (wpAny_mono h₃ (λx s₄ h₄=>wpAny_bind (wpAny_mono h₄ (λξ s₅ h₅=>wpAny_pure (wpAny_pure ⟨hq,h₅⟩)) λξ ξ h'=>h'.elim)) λξ ξ h'=>h'.elim))
noncomputable def vO(sc':Scope)(N:List Str)(pt:Expr)(k base:Nat):Prop:=
 (k=1∧TrT sc' N pt (.var base))∨(k=2∧TrT sc' N pt (.tup (.cons (.var base) (.cons (.var (base+1)) .nil))))
noncomputable def yB(k:Nat)(v:V):Option (List V):=if k=1 then some [v] else(GE v).bind λds=>if ds.length=k then some ds else none
theorem uK{k:Nat}{v:V}{vals:List V}(h:yB k v=some vals):vals.length=k∧((k=1∧vals=[v])∨(k≠1∧v=.tup vals)):=by
 unfold yB at h
 by_cases q:k=1
 ·rw[if_pos q] at h;rw[←Option.some.inj h];exact⟨q.symm,.inl ⟨q,rfl⟩⟩
 ·rw[if_neg q] at h
  obtain⟨ds,h1,h⟩:=aH.mp h
  exact(lQ h).elim (λz=>by rw[←z.2];exact⟨z.1,.inr ⟨q,pF h1⟩⟩) λh=>nomatch h
theorem Co{ρ post:List V}{a b:V}:(ρ++a::post).set ρ.length b=ρ++b::post:=by
 rw[List.set_append_right _ _ (aO _),eM];rfl
theorem zK{X:Pk}{r:Nat}{sc':Scope}{N:List Str}{pt:Expr}{k:Nat}{ρ old post vals:List V}{w:W}{d:V}(h:vO sc' N pt k ρ.length)(ho:yB k d=some vals)(hl:old.length=k) :
  ∃tg,TrT sc' N pt tg∧AsT X r tg d (ρ++old++post) w (ρ++vals++post) w:=by
 obtain⟨hv,hd⟩:=uK ho
 rcases h with⟨rfl,h⟩ | ⟨rfl,h⟩
 ·refine⟨_,h,?_⟩
  obtain⟨_,rfl⟩:=hd.resolve_right λq=>q.1 rfl
  obtain⟨a,k,rfl,hk⟩:=YG (l:=[]) (a:=0) hl
  rw[dD.mp hk,bV,bV]
  have:=AsT.var (X:=X) (r:=r) (i:=ρ.length) (d:=d) (ρ:=ρ++a::post) (w:=w)
  rw[Co] at this
  exact this
 ·obtain⟨_,rfl⟩:=hd.resolve_left λq=>absurd q.1 (by decide)
  obtain⟨a,b,rfl⟩:=zI hl
  obtain⟨x,y,rfl⟩:=zI hv
  refine⟨_,h,AsT.tup rfl ?_⟩
  rw[bV,bV]
  have h1:=AsT.var (X:=X) (r:=r) (i:=ρ.length) (d:=x) (ρ:=ρ++a::(b::post)) (w:=w)
  have h2:=AsT.var (X:=X) (r:=r) (i:=ρ.length+1) (d:=y) (ρ:=ρ++x::(b::post)) (w:=w)
  rw[Co] at h1
  rw[show ρ++x::(b::post)=(ρ++[x])++b::post from by rw[bV];rfl,show ρ.length+1=(ρ++[x]).length from by rw[aD];rfl,Co,bV,bV] at h2
  rw[aD] at h2
  exact yK.cons h1 (yK.cons h2 yK.nil)
structure jU(X:Pk)(r:Nat)(S:Addr→Prop)(js:List Addr)(I:Addr)(it:It)(D:Addr)(env:Env)(sc':Scope)(N:List Str)(φ0:List Addr)(w0:W)(s0:Shared)(φ:List Addr)(w:W)(s:Shared)(A:Around)(ρ':List V)(acc:List V):Prop where
 step:fR X (λa=>(S a∨a∈js)∨a=D) φ0 w0 s0 φ w s
 F:Fr X r S φ env sc' N ρ' w s A
 dis:∀a,a∈js→¬S a
 jd:¬D∈js
 sd:¬S D
 x:mF X φ s.heap I js it
 own:jM X φ s.heap js
 acc:Acc X φ s.heap D acc
inductive CU(X:Pk)(r:Nat)(S:Addr→Prop)(js:List Addr)(I:Addr)(D:Addr)(env:Env)(sc':Scope)(N:List Str)(φ0:List Addr)(w0:W)(s0:Shared)(A:Around)(ρ:List V)(k:Nat)(ds:List V)(w':W)(f:Flow)(s':Shared):Prop
 |mk (φ':List Addr) (s1:Shared) (vals:List V) (it:It):vals.length=k→jU X r S js I it D env sc' N φ0 w0 s0 φ' w' s1 A (ρ++vals) ds→tF X s1 js s'→CU X r S js I D env sc' N φ0 w0 s0 A ρ k ds w' f s'
noncomputable def vU(X:Pk)(r:Nat)(elt:Ex)(k:Nat)(ifs:Ces)(it:It)(ρ acc:List V)(w:W)(ds:List V)(w':W):Prop:=
 ∀E d pt piter pifs pelt sc' N,Pi E d pt piter pifs pelt→Tr sc' N pelt elt→LV sc' N pifs ifs→pifs.length≤1→vO sc' N pt k ρ.length →
  ∀S js D env φ0 w0 s0 φ s A I vals,vals.length=k→jU X r S js I it D env sc' N φ0 w0 s0 φ w s A (ρ++vals) acc →
   codeAny (model P X.w) A (.compLoop E d (.ref I) (.ref D) env) (okR (CU X r S js I D env sc' N φ0 w0 s0 A ρ k ds w')) s
section
variable{X:Pk}{r:Nat}{ρ ρ1 ρ2:List V}{w w1 w2 w3 w4:W}{S:Addr→Prop}{js:List Addr}{I D:Addr}{it it':It}{env:Env}{sc':Scope}{N:List Str}{φ0 φ φ1:List Addr}{w0:W}{s0 s s1:Shared}{A:Around}{acc:List V}
theorem jU.stepS(Z:jU X r S js I it D env sc' N φ0 w0 s0 φ w s A ρ acc)(T:fR X S φ w s φ1 w1 s1)(R1:fW X S φ1 env sc' N ρ1 s1.heap):jU X r S js I it D env sc' N φ0 w0 s0 φ1 w1 s1 A ρ1 acc:=
 have hS:=vS.ofEnv (X:=X) Z.F.R
 have q:=mF.keep2 Z.F.C T hS Z.own Z.dis Z.x
 ⟨Z.step.trans (T.weak λa ha=>.inl (.inl ha)),Z.F.own T R1,Z.dis,Z.jd,Z.sd,q.1,q.2,Z.acc.keep2 Z.F.C T hS Z.sd⟩
theorem jU.turned(Z:jU X r S js I it D env sc' N φ0 w0 s0 φ w s A ρ acc){d:V}{v:Value}(q:rU X φ w s I js d it' v s1):jU X r S js I it' D env sc' N φ0 w0 s0 φ w s1 A ρ acc:=
 ⟨Z.step.trans (q.step.weak λa ha=>.inl (.inr ha)),⟨Z.F.R.iter Z.own Z.dis q.kept,q.step.cst,Z.F.M⟩,Z.dis,Z.jd,Z.sd,q.at_,q.own,Z.acc.keep2 Z.F.C q.step (vS.own Z.own) Z.jd⟩
theorem jU.push(Z:jU X r S js I it D env sc' N φ0 w0 s0 φ w s A ρ acc)(hl:acc.length<lim){v:Value}{d:V}(rv:Rep X φ s.heap v d){Q:Value→Shared→Prop}(k:∀s',jU X r S js I it D env sc' N φ0 w0 s0 φ w s' A ρ (acc++[d])→Q .none s'):WP X A (call (.builtin "list.append") [.ref D,v]) Q s:=
 Z.acc.push Z.F.C hl rv λh' TD acc' hk=>by
  have OD:=Z.acc.owned
  have q:=mF.keep2 (s':={s with heap:=h'}) Z.F.C TD (vS.own OD) Z.own (λa hj z=>Z.jd (by rw[←aG.mp z];exact hj)) Z.x
  exact k _ ⟨Z.step.trans (TD.weak λa ha=>.inr (aG.mp ha)),⟨Z.F.R.iter OD (λa z hs=>Z.sd (by rw[←aG.mp z];exact hs)) hk,TD.cst,Z.F.M⟩,Z.dis,Z.jd,Z.sd,q.1,q.2,acc'⟩
noncomputable def aAp(X:Pk)(r:Nat)(ifs:Ces)(ρ:List V)(w:W)(b:Bool)(w':W):Prop:=qK X r .And ifs ρ w b w'
inductive Hh(X:Pk)(r:Nat)(ρ:List V)(w:W)(b:Bool)(w':W):Ces→Prop | nil:b=true→w'=w→Hh X r ρ w b w' .nil | one (c:Ce):Tst X r c ρ w b w'→Hh X r ρ w b w' (.cons c .nil)
theorem UO{ifs:Ces}{pifs:List Expr}{b:Bool}(h:Hh X r ρ w b w1 ifs)(ht:LV sc' N pifs ifs)(F:Fr X r S φ env sc' N ρ w s A) :
  WP X A (forIn pifs true λc r=>if r=true then do let ok ←isTrue c env (eval c env);pure (ForInStep.yield ok) else pure (ForInStep.yield r)) (Ja X φ w s b w1) s:=by
 cases h with
 |nil h1 h2 =>
  rw[jR (SU ht),h1,h2]
  exact wpAny_tests_nil ⟨φ,.refl F.C,rfl⟩
 |one c h =>
  exact(gX (Fi ht)).casesOn λp ps a b=>by
   rw[jR (SU b)]
   exact wpAny_tests_one (h _ _ _ a _ _ _ _ _ F)
theorem MA{pt:Expr}{k b:Nat}(h:vO sc' N pt k b):∃tg,TrT sc' N pt tg:=h.elim (λq=>⟨_,q.2⟩) λq=>⟨_,q.2⟩
theorem uE(h:mK it=false)(tg:Tg):xI it tg=true:=by unfold xI;rw[h];rfl
theorem vU.stop{elt:Ex}{k:Nat}{ifs:Ces}(hz:mK it=false)(h:kU it w=some none):vU X r elt k ifs it ρ acc w acc w:=λE d pt piter pifs pelt sc' N hT h1 h2 hl h3 S js D env φ0 w0 s0 φ s A I vals hv Z=>by
 obtain⟨tg,htg⟩:=MA h3
 refine CK hT ((Nx.ok (r:=r) h φ s A I js pt sc' N tg Z.x Z.own Z.F.C Z.F.M htg (uE hz tg)).mono λx s1 hx=>?_)
 cases x with
 |none=>exact CU.mk φ s vals it hv Z hx.2
 |some v=>exact Cz hx
theorem vU.turn{elt:Ex}{k:Nat}{ifs:Ces}{own ds:List V}{v:V}{b:Bool}(hz:mK it=false)(h:kU it w=some (some (v,it')))(ho:yB k v=some own)(hi:Hh X r (ρ++own) w b w1 ifs)(hn:(b=true∧∃d w2,Ev X r elt (ρ++own) w1 d w2∧acc.length<lim∧vU X r elt k ifs it' ρ (acc++[d]) w2 ds w3)∨(b=false∧vU X r elt k ifs it' ρ acc w1 ds w3)):vU X r elt k ifs it ρ acc w ds w3:=λE d pt piter pifs pelt sc' N hT h1 h2 hl h3 S js D env φ0 w0 s0 φ s A I vals hv Z=>by
 obtain⟨tg,htg,ha⟩:=zK (X:=X) (r:=r) (w:=w) (post:=[]) h3 ho hv
 rw[cD,cD] at ha
 refine CK hT ((Nx.ok (r:=r) h φ s A I js pt sc' N tg Z.x Z.own Z.F.C Z.F.M htg (uE hz tg)).mono λx s1 hx=>?_)
 cases x with
 |none=>cases hx.1
 |some v =>
  refine(Cy hx).mono λξ s2 q=>?_
  have Z2:=Z.turned q
  refine ha.use htg Z2.F q.rep λφ3 s3 T3 F3=>?_
  have Z3:=Z2.stepS T3 F3.R
  refine(UO hi h2 F3).mono λok s4 q=>q.casesOn λφ4 T4 e=>?_
  rw[e]
  have F4:=F3.step T4
  have Z4:=Z3.stepS T4.up F4.R
  rcases hn with⟨rfl,dv,w2,he,hlen,hn⟩ | ⟨rfl,hn⟩
  ·rw[if_pos rfl]
   exact he.use h1 F4 λφ5 s5 xv T5 r5 F5=>(Z4.stepS T5.up F5.R).push hlen r5 λs6 Z6=>hn _ _ _ _ _ _ _ _ hT h1 h2 hl h3 _ _ _ _ _ _ _ _ _ _ _ _ (uK ho).1 Z6
  ·rw[if_neg bC]
   exact hn _ _ _ _ _ _ _ _ hT h1 h2 hl h3 _ _ _ _ _ _ _ _ _ _ _ _ (uK ho).1 Z4
end
section
variable{X:Pk}{r:Nat}{ρ ρ1 ρ2:List V}{w w1 w2 w3 w4:W}
theorem mF.self{φ:List Addr}{s:Shared}{I:Addr}{js:List Addr}{it:It}(x:mF X φ s.heap I js it){A:Around}{Q:Value→Shared→Prop}(q:Q (.ref I) s){E:Value→Shared→Prop}:wpAny (model P X.w) A (pyIter (.ref I)) Q E s:=by
 cases it with
 |tup ds j=>exact x.2.casesOn λt n vs h1 ξ ξ ξ=>wpAny_pyIter_tupleiter h1 q
 |cell n i=>obtain⟨_,a,h1,_⟩:=x;exact wpAny_pyIter_listiter h1 q
 |rng y k=>exact wpAny_pyIter_rangeiter x.2 q
 |zip d1 d2 d3 j=>cases x with
  |mk TI TO i1 i2 i3 x y z h1=>exact wpAny_pyIter_zip h1 q
structure Dt(X:Pk)(r:Nat)(S:Addr→Prop)(env:Env)(sc:Scope)(ns:List Str)(ρ:List V)(φ:List Addr)(w:W)(s:Shared)(A:Around)(D CA:Addr)(φ':List Addr)(w':W)(s':Shared)(n:Nat):Prop where
 step:fR X no φ w s φ' w' s'
 F:Fr X r S φ' env sc ns ρ w' s' A
 rep:Rep X φ' s'.heap (.ref D) (.ref n)
 fresh:s.heap.get? CA=none
 out:CA∉φ'
 base:X.h0.get? CA=none
 tab:∃m,s'.heap.Ns CA m
noncomputable def Jc(X:Pk)(r:Nat)(S:Addr→Prop)(js:List Addr)(I D:Addr)(env:Env)(sc':Scope)(N:List Str)(φ0:List Addr)(w0:W)(s0:Shared)(A:Around)(ρ ds:List V)(w':W)(f:Flow)(s':Shared):Prop:=∃k,CU X r S js I D env sc' N φ0 w0 s0 A ρ k ds w' f s'
noncomputable abbrev Xk(n:Nat)(sc':Scope):Addr→Prop:=λa=>a=n∨∃x,(cellsFrom (n+1) sc'.names []).lookup x=some a
theorem Gv{sc sc':Scope}{ns N:List Str}{i:It}{ds:List V}{S S' B:Addr→Prop}{env env':Env}{φ φ1:List Addr}{s s2 sA:Shared}{A:Around}{js:List Addr}{I:Addr}{h':Heap}{use:Option (Value→Sem Unit)}{Q:Value→Shared→Prop}(F:Fr X r S φ env sc ns ρ w s A)(T1:fR X no φ w s φ1 w1 sA)(St:jG X B js φ1 sA s2 I i)(kp:∀b o,(s2.heap.push (listOf #[] 0)).get? b=some o→h'.get? b=some o)(hS':∀a,S' a→s2.heap.objs.size<a)(hSC:S' env'.locals)(C2:Cst (X.with B) φ1 w1 {s2 with heap:=h'})(fin:∀D CA φ' s',Dt X r S env sc ns ρ φ w s A D CA φ' (w2.add (.list ds)) s' w2.next→∀f,compPost (model P X.w) A nor use Q (.ref D) CA (.ok f) s'){res:Result}{s':Shared}{A':Around}(hres:okR (Jc (X.with B) r S' js I s2.heap.objs.size env' sc' N φ1 w1 {s2 with heap:=h'} A' ρ ds w2) res s'):compPost (model P X.w) A nor use Q (.ref s2.heap.objs.size) env'.locals res s':=by
 cases res with
 |error e=>exact hres.elim
 |ok f =>
 refine Exists.elim (show ∃k,_ from hres) λk hp=>hp.casesOn λφ' s3 vals it' ξ Z3 E=>?_
 have hno:∀a,s2.heap.objs.size≤a→s.heap.get? a=none:=λa ha=>sJ (T1.alive a) (AX (St.kept a) (tU ha))
 have k2:∀b o,s2.heap.get? b=some o→h'.get? b=some o:=λb o e=>kp _ _ (aR _ e)
 have Tg:fR X no φ w s φ1 w1 {s2 with heap:=h'}:=T1.trans (fR.grow (s':={s2 with heap:=h'}) T1.cst (λb o e=>k2 _ _ (St.kept b o e)) St.gens St.os)
 have Tg':fR (X.with B) (λa=>(S' a∨a=s2.heap.objs.size)∨a∈js) φ w s φ1 w1 {s2 with heap:=h'}:=⟨Tg.pre,Tg.len,C2,λa o e hl ξ=>Tg.keep a o e hl id,Tg.newf,Tg.alive,Tg.mono⟩
 have T3:=Tg'.trans (Z3.step.weak λa ha=>ha.elim (λha=>ha.elim (λq=>.inl (.inl q)) .inr) λq=>.inl (.inr q))
 obtain⟨TE,K⟩:=fR.ended (X:=X) F.C T3 (λa ha=>sJ (T1.alive a) (St.fresh a ha)) Z3.own ⟨E.gens,E.os,E.kept⟩
 have TE2:fR X (λa=>a=s2.heap.objs.size) φ w s φ' w2 s':=TE.sub λa ha=>ha.elim (λq=>.inl (hno a (bW (hS' a q)))) .inr
 refine Z3.acc.at_.casesOn λn vs e1 e2 l=>?_
 have e1':s'.heap.get? s2.heap.objs.size=some (listOf vs.toArray n):=E.kept _ _ Z3.jd e1
 have rs:fU X φ' s'.heap vs ds:=fU.keepsG (X:=X.with B) (X':=X) (λd v q=>nN d v (q.keeps K)) _ _ e2
 have TF:fR X no φ w s (φ'++[s2.heap.objs.size]) (w2.add (.list ds)) s':=fR.adopt (c:=.list ds) F.C TE2 (hno _ (aO _)) Z3.acc.out e1' Bm (λξ ξ ξ e=>e) rfl rfl λK=>xF.mk n vs e1' (rs.keeps K) l
 have big:=hS' _ hSC
 refine fin _ _ _ _ ⟨TF,F.step TF,.ref (sD TE2.cst _),hno _ (bW big),λh=>?_,?_,?_⟩ f
 ·refine(AG h).elim (λh=>(Z3.F.R.ownOk _ hSC).casesOn λξ q ξ ξ ξ=>q h) λh=>dR _ (h▸big)
 ·exact(Z3.F.R.ownOk _ hSC).casesOn λξ ξ q ξ ξ=>q
 ·refine Z3.F.R.tab.casesOn λm hm ξ=>⟨m,?_⟩
  obtain⟨o,es,ep,e,z⟩:=hm
  exact⟨o,es,ep,E.kept _ _ (λq=>Z3.dis _ q hSC) e,z⟩
theorem CL{E:Expr}{pt piter pelt:Expr}{pifs:List Expr}{rest:List Comprehension}{sc sc':Scope}{ns own:List Str}{pos:Pos}{it:Ie}{i:It}{ds:List V}(hE:E=.ListComp pelt (⟨pt,piter,pifs,0⟩::rest) sc' pos)(ok:Hi sc own sc')(hit:TrI sc ns piter it)(h1:pB X r it ρ w i w1)(h2:∀B S js D env φ0 w0 s0 φ s A I,jU (X.with B) r S js I i D env sc' (ns++own) φ0 w0 s0 φ w1 s A (ρ++aV own.length .unset) [] →
   codeAny (model P X.w) A (.compLoop E 0 (.ref I) (.ref D) env) (okR (Jc (X.with B) r S js I D env sc' (ns++own) φ0 w0 s0 A ρ ds w2)) s){S:Addr→Prop}{env:Env}{φ:List Addr}{s:Shared}{A:Around}(F:Fr X r S φ env sc ns ρ w s A){use:Option (Value→Sem Unit)}{Q:Value→Shared→Prop}{ps:Pos}(fin:∀D CA φ' s',Dt X r S env sc ns ρ φ w s A D CA φ' (w2.add (.list ds)) s' w2.next→∀f,compPost (model P X.w) A nor use Q (.ref D) CA (.ok f) s') :
  WP X A (comprehension E sc' env ps (PySem.newList []) false (eval piter env) use) Q s:=by
 subst hE
 obtain⟨cl,hcl,hcl1,hcl2⟩:=yH (scope:=sc') (env:=env) λx hx=>(F.R.cell x (ok.fre x (ok.names _ hx)).1).casesOn λc v e ξ ξ ξ=>by rw[e];rfl
 refine wpAny_comprehension_free (g:=⟨pt,piter,pifs,0⟩) (gs:=rest) rfl (hit.fold env) hcl ok.kind (λx hx e=>by rw[ok.names x hx,e]) ((h1 _ _ _ hit _ _ _ _ _ F).mono λv s1 hv=>WP.mono hv λitv s2 q=>q.casesOn λφ1 sA B I js e T1 St=>?_)
 rw[e]
 have RA:=F.R.step F.C T1
 have C2:=St.cst T1.cst
 have TD:=fR.push C2 (listOf #[] 0)
 refine PySem.wpAny_newList (items:=[]) ?_
 refine Ek λh' kp hns hcells=>?_
 have Rc:=fW.comp ((St.toEnv RA).step C2 TD) TD.cst ok kp hns hcells hcl1 hcl2
 have TC:=fR.grow (s':={s2 with heap:=h'}) TD.cst kp rfl rfl
 have hsz:(s2.heap.push (listOf #[] 0)).objs.size=s2.heap.objs.size+1:=dX ..
 have jlt:∀a,a∈js→a<s2.heap.objs.size:=λa ha=>(St.own a ha).casesOn λo ξ ξ e ξ ξ ξ=>cY e
 have sge:∀a,Xk (s2.heap.push (listOf #[] 0)).objs.size sc' a→s2.heap.objs.size<a:=λa ha=>by
  rcases ha with rfl | ⟨x,hx⟩
  ·rw[hsz];exact cV _
  ·have:(s2.heap.push (listOf #[] 0)).objs.size<a:=(hcells.empty x a (mem_of_lookup hx)).2
   rw[hsz] at this
   exact cO (cV _) this
 have q:=mF.keep2 (S:=no) C2 (TD.trans TC) (λξ ξ q=>q.elim) St.own (λξ ξ q=>q) St.at_
 have e0:=iA s2.heap
 have Z:jU (X.with B) r (Xk (s2.heap.push (listOf #[] 0)).objs.size sc') js I i s2.heap.objs.size (HA sc' (s2.heap.push (listOf #[] 0)).objs.size (cellsFrom ((s2.heap.push (listOf #[] 0)).objs.size+1) sc'.names []++cl) env) sc' (ns++own)
   φ1 w1 {s2 with heap:=h'} φ1 w1 {s2 with heap:=h'} A (ρ++aV own.length .unset) []:=
  ⟨fR.refl TC.cst,⟨Rc,TC.cst,F.M⟩,λa ha hs=>Nat.lt_asymm (jlt a ha) (sge a hs),λh=>dR _ (jlt _ h),λh=>dR _ (sge _ h),q.1,q.2,⟨⟨0,[],kp _ _ (aW _ rfl),.nil,cX _⟩,C2.notMem e0,C2.notBase e0⟩⟩
 have key:=codeAny_mono (h2 B _ js s2.heap.objs.size _ φ1 w1 _ φ1 _ A I Z) λres s' hres=>Gv F T1 St kp sge (.inl rfl) TC.cst fin hres
 exact codeAny_compStart_list key (mF.self (s:={s2 with heap:=h'}) q.1 key)
end
section
variable{X:Pk}{r:Nat}{ρ ρ1 ρ2:List V}{w w1 w2 w3 w4:W}
theorem JJ{S:Addr→Prop}{φ φ':List Addr}{s s':Shared}{CA:Addr}{m:Str→Option Value}{h':Heap}(C:Cst X φ w s)(T:fR X S φ w s φ' w1 s')(h1:s.heap.get? CA=none)(h2:CA∉φ')(h3:X.h0.get? CA=none)(hm:s'.heap.Ns CA m)(hs:Heap.SameBut CA s'.heap h'):fR X S φ w s φ' w1 {s' with heap:=h'}∧jM X φ' s'.heap [CA]∧(∀b o,¬b∈[CA]→s'.heap.get? b=some o→h'.get? b=some o):=by
 obtain⟨o,es,ep,e,hd,_⟩:=hm
 have O:jM X φ' s'.heap [CA]:=λa ha=>by
  rw[aG.mp ha];exact(nO hd).ownJ h2 h3 e λv q=>by rw[hd] at q;cases q
 have hk:∀b o,¬b∈[CA]→s'.heap.get? b=some o→h'.get? b=some o:=λb o hb e=>by rw[hs.2 b λq=>hb (aG.mpr q)];exact e
 have E:=fR.ended (X:=X) (B:=λξ=>False) (js:=[CA]) (S:=S) (s:=s') (s2:={s' with heap:=h'}) C (by rw[vV];exact T.weak λa ha=>.inl ha) (λa ha=>by rw[aG.mp ha];exact h1) (by rw[vV];exact O) ⟨rfl,rfl,hk⟩
 exact⟨E.1,O,hk⟩
theorem Ev.comp{e:Ex}{ds:List V}(h:∀py sc ns,Tr sc ns py e→∀S env φ s A,Fr X r S φ env sc ns ρ w s A→∀use Q,
   (∀D CA φ' s',Dt X r S env sc ns ρ φ w s A D CA φ' (w2.add (.list ds)) s' w2.next→∀f,compPost (model P X.w) A nor use Q (.ref D) CA (.ok f) s') →
   ∃pelt gens sc' pos,py=.ListComp pelt gens sc' pos∧WP X A (comprehension py sc' env (firstIterPos gens pos) (PySem.newList []) (firstAsync gens) (firstIter gens env) use) Q s) :
  Ev X r e ρ w (.ref w2.next) (w2.add (.list ds))∧EvU X r e ρ w (.ref w2.next) (w2.add (.list ds)):=by
 constructor
 ·intro py sc ns ht S env φ s A F
  obtain⟨pelt,gens,sc',pos,rfl,hw⟩:=h py sc ns ht S env φ s A F none (hH X φ w s (.ref w2.next) (w2.add (.list ds))) λD CA φ' s' Z f=>Z.tab.elim λm hm=>⟨m,hm,λh' hs=>by
   obtain⟨T,O,hk⟩:=JJ F.C Z.step Z.fresh Z.out Z.base hm hs
   exact⟨φ',T,Z.rep.keeps (O.kept hk)⟩⟩
  rw[eval_ListComp]
  exact hw
 ·intro py sc ns ht S env φ s A F u ρ2 w3 hu
  obtain⟨pelt,gens,sc',pos,rfl,hw⟩:=h py sc ns ht S env φ s A F (some u) (λξ s2=>AsP X S env sc ns φ w s ρ2 w3 s2) λD CA φ' s' Z f=>by
   refine(hu φ' s' (.ref D) Z.step Z.F Z.rep).mono λξ s4 q=>q.casesOn λφ4 T4 R4=>?_
   have hSCA:¬S CA:=λq=>(F.R.ownOk CA q).casesOn λo ξ ξ e ξ=>by rw[Z.fresh] at e;cases e
   obtain⟨m,o,es,ep,e,hd⟩:=Z.tab
   have e4:=T4.keep _ _ e (gQ Z.out) hSCA
   refine⟨m,⟨o,es,ep,e4,hd⟩,λh' hs=>?_⟩
   obtain⟨T5,O,hk⟩:=JJ F.C (Z.step.up.trans T4) Z.fresh (λq=>Z.out (T4.mem_back q (iB e))) Z.base ⟨o,es,ep,e4,hd⟩ hs
   exact⟨φ4,T5,R4.iter O (λa ha q=>hSCA (by rw[←aG.mp ha];exact q)) hk⟩
  show wpAny (model P X.w) A (do let _ ←comprehension (.ListComp pelt gens sc' pos) sc' env (firstIterPos gens pos) (PySem.newList []) (firstAsync gens) (firstIter gens env) (some u)) _ _ _
  exact wpAny_bind (hw.mono λξ ξ x=>wpAny_pure x)
end
theorem vX{sc':Scope}{pre own post:List Str}{x:Str}{j:Nat}(hx:own[j]?=some x)(hn:(own++post).Nodup)(hk:sc'.names.lookup x=some .local∨sc'.names.lookup x=some .cell)(ho:(x==(".0" : Str))=false∧(x==("__debug__" : Str))=false∧(x==("__classdict__" : Str))=false):zJ sc' (pre++own++post) x=some (pre.length+j):=by
 have hxo:x∈own:=aF hx
 have hnp:x∉post:=λh=>by
  rw[dI] at hn
  exact hn.2.2 x hxo x h rfl
 have hno:own.Nodup:=by rw[dI] at hn;exact hn.1
 unfold zJ yQ
 have e:gK x (pre++own++post)=some (pre.length+j):=by
  rw[jJ,lH hnp,jJ,sZ hno hx]
 rw[bV] at e
 rcases hk with hk | hk<;>simp[hk,ho.1,ho.2.1,ho.2.2,e]
inductive SZ(k:Nat)(f:List Str→Bool):Expr→Prop | one (x:Str) (p:Pos):k=1→f [x]=true→SZ k f (.Name x p)
 |two (x y:Str) (p q:Pos) (n:Nat) (pos:Pos):k=2→f [x,y]=true→SZ k f (.Tuple [.Name x p,.Name y q] n pos)
theorem vY{t:Expr}{k:Nat}{f:List Str→Bool}(h:Hv t k f=true):SZ k f t:=(cR.mp h).elim (λh=>(iL (and2 h).2).casesOn λx p z=>.one x p (of_decide_eq_true (and2 h).1) z)
 λh=>(kC (and2 h).2).casesOn λes n pos z=>by
  obtain⟨a,b,rfl,z⟩:=Bu z
  exact(iL z).casesOn λx p z=>(iL z).casesOn λy q z=>.two x y p q n pos (of_decide_eq_true (and2 h).1) z
theorem Cd{sc:Scope}{ns:List Str}{x:Str}{p:Pos}{i:Nat}(h:zJ sc ns x=some i)(hk:sc.names.lookup x=some .local∨sc.names.lookup x=some .cell):TrT sc ns (.Name x p) (.var i):=
 bS.mpr ⟨by rw[h];exact beq_self_eq_true _,cR.mpr (hk.imp decide_eq_true decide_eq_true)⟩
structure Sa(sc':Scope)(pre post:List Str)(t:Expr)(k:Nat)(own:List Str):Prop where
 len:own.length=k
 tgt:(own++post).Nodup→(∀x∈own,sc'.names.lookup x=some .local∨sc'.names.lookup x=some .cell)→(∀x∈own,(x==(".0" : Str))=false∧(x==("__debug__" : Str))=false∧(x==("__classdict__" : Str))=false)→vO sc' (pre++own++post) t k pre.length
theorem GG{sc':Scope}{t:Expr}{k:Nat}{f:List Str→Bool}(h:SZ k f t):∃own,f own=true∧own.length=k∧∀pre post,Sa sc' pre post t k own:=by
 cases h with
 |one x p hk hf=>exact⟨_,hf,hk.symm,λpre post=>⟨hk.symm,λhn h1 h2=>.inl ⟨hk,Cd (vX (j:=0) rfl hn (h1 x (by simp)) (h2 x (by simp))) (h1 x (by simp))⟩⟩⟩
 |two x y p q n pos hk hf=>exact⟨_,hf,hk.symm,λpre post=>⟨hk.symm,λhn h1 h2=>.inr ⟨hk,show(chT (.var pre.length) sc' _ (.Name x p)&&(chT (.var (pre.length+1)) sc' _ (.Name y q)&&true))=true from
   bS.mpr ⟨Cd (vX (j:=0) rfl hn (h1 x (by simp)) (h2 x (by simp))) (h1 x (by simp)),bS.mpr ⟨Cd (vX (j:=1) rfl hn (h1 y (by simp)) (h2 y (by simp))) (h1 y (by simp)),rfl⟩⟩⟩⟩⟩
section
variable{X:Pk}{r:Nat}{ρ ρ1 ρ2:List V}{w w1 w2 w3 w4:W}
theorem Ev.comp1{elt:Ex}{it:Ie}{k:Nat}{cs:Ces}{i:It}{ds:List V}(h1:pB X r it ρ w i w1)(h2:∀B,vU (X.with B) r elt k cs i ρ [] w1 ds w2) :
  Ev X r (.comp1 elt k it cs) ρ w (.ref w2.next) (w2.add (.list ds))∧EvU X r (.comp1 elt k it cs) ρ w (.ref w2.next) (w2.add (.list ds)):=
 Ev.comp λpy sc ns ht S env φ s A F use Q fin=>(CO (OB ht)).casesOn λelt0 gs sc' pos z=>(sH z).casesOn λg z=>by
  obtain⟨t0,it0,ifs0,n⟩:=g
  obtain rfl:n=0:=of_decide_eq_true (and2 z).1
  obtain⟨own,z,hlen,tg⟩:=GG (sc':=sc') (vY (and2 z).2)
  obtain⟨hok,z⟩:=and2 z
  obtain⟨hit,z⟩:=and2 z
  obtain⟨hl,z⟩:=and2 z
  obtain⟨hifs,helt⟩:=and2 z
  have ok:=Ah hok
  refine⟨elt0,[⟨t0,it0,ifs0,0⟩],sc',pos,rfl,CL (it:=it) (own:=own) (ds:=ds) rfl ok hit h1 (λB S' js D env' φ0 w0 s0 φ' s' A' I Z=>?_) F fin⟩
  have tg':vO sc' (ns++own) t0 k ρ.length:=by
   have:=(tg ns []).tgt (by rw[cD];exact ok.nd) ok.mine ok.odd
   rw[F.R.len];rwa [cD] at this
  exact codeAny_mono (h2 B _ 0 t0 it0 ifs0 elt0 sc' (ns++own) ⟨⟨_,_,_,rfl⟩,λit acc env=>rfl⟩ helt hifs (of_decide_eq_true hl) tg' S' js D env' φ0 w0 s0 φ' s' A' I _ (by rw[dK,hlen]) Z) λres s'' hres=>hres.imp λf q=>⟨k,q⟩
theorem fW.narrow{S:Addr→Prop}{φ:List Addr}{env:Env}{sc:Scope}{N own2:List Str}{v2:List V}{h:Heap}(R:fW X S φ env sc (N++own2) (ρ++v2) h)(hl:ρ.length=N.length)(hd:∀x∈own2,x∉N):fW X S φ env sc N ρ h:=by
 have k1:∀{x i},gK x N=some i→gK x (N++own2)=some i:=λ{x i} h1=>by
  rw[jJ,lH λq=>hd x q (aF (iY h1))];exact h1
 have k2:∀{i:Nat} {d:V},ρ[i]?=some d→(ρ++v2)[i]?=some d:=λ{i d} h2=>by rw[aJ (aB.mp h2).1];exact h2
 exact⟨R.kind,R.glob,R.blt,R.loc,R.cel,R.fre,R.glo,hl,R.tab.casesOn λm h1 h2=>⟨m,h1,λx i d a b c e=>h2 x i d a b (k1 c) (k2 e)⟩,
  λx hx=>(R.cell x hx).casesOn λc v h1 h2 h3 h4=>⟨c,v,h1,h2,h3,λi d a b=>h4 i d (k1 a) (k2 b)⟩,R.apart,R.own,R.ownOk⟩
theorem DY(pelt pt piter pt2 piter2:Expr)(scC:Scope)(pos:Pos)(it acc:Value)(env:Env) :
  compTurn (.ListComp pelt [⟨pt,piter,[],0⟩,⟨pt2,piter2,[],0⟩] scC pos) 0 it acc env=(do
   standAt piter.pos
   match ←pyNext it with
   |none=>pure (.done .next)
   |some v =>
    letOwnedTupleGo pt it v
    assign pt env v
    let x ←eval piter2 env
    standAt piter2.pos
    let x ←foldedSetIterable piter2 env x
    let it2 ←holding [x] (pyIter x)
    let _ ←runOwn (.compStart (.ListComp pelt [⟨pt,piter,[],0⟩,⟨pt2,piter2,[],0⟩] scC pos) 1 it2 acc env) env
    again (.compLoop (.ListComp pelt [⟨pt,piter,[],0⟩,⟨pt2,piter2,[],0⟩] scC pos) 0 it acc env)):=by rfl
theorem BK{pelt pt piter pt2 piter2:Expr}{scC:Scope}{pos:Pos}{it acc:Value}{env:Env}{A:Around}{s:Shared}{R:Result→Shared→Prop}(h0:codeAny (model P X.w) A (.compLoop (.ListComp pelt [⟨pt,piter,[],0⟩,⟨pt2,piter2,[],0⟩] scC pos) 1 it acc env) R s)(h:wpAny (model P X.w) A (pyIter it) (λit' s'=>codeAny (model P X.w) A (.compLoop (.ListComp pelt [⟨pt,piter,[],0⟩,⟨pt2,piter2,[],0⟩] scC pos) 1 it' acc env) R s')
   (notedBy (model P X.w) A env λx s'=>R (.error x) s') s) :
  codeAny (model P X.w) A (.compStart (.ListComp pelt [⟨pt,piter,[],0⟩,⟨pt2,piter2,[],0⟩] scC pos) 1 it acc env) R s:=by
 refine codeAny_of_tree ?_
 show wpAny _ _ ((compStart (.ListComp pelt [⟨pt,piter,[],0⟩,⟨pt2,piter2,[],0⟩] scC pos) 1 it acc env).onRaise (λx=>do noteFrame x env;standAt theWindowsPlace)) _ _ s
 refine wpAny_notedAt ?_
 unfold compStart
 show wpAny _ _ (ask >>= _) _ _ s
 refine wpAny_bind (wpAny_askSetting (wpAny_ite ?_))
 split
 ·first
   |exact wpAny_bind (wpAny_pure (wpAny_pure (And.intro rfl h0)))
   |exact wpAny_pure (And.intro rfl h0)
 ·first
   |exact wpAny_bind (wpAny_rule (wpAny_bind (wpAny_standAt (wpAny_bind (wpAny_mono h (λit' s' h'=>wpAny_pure (And.intro rfl h')) λξ ξ x=>x)))))
   |(refine wpAny_bind (wpAny_rule ?_);show wpAny _ _ (standAt piter2.pos >>= _) _ _ s;exact wpAny_bind (wpAny_standAt (wpAny_bind (wpAny_mono h (λit' s' h'=>wpAny_pure (And.intro rfl h')) λξ ξ x=>x))))
theorem Ag{A:Around}{pelt pt piter pt2 piter2:Expr}{scC:Scope}{pos:Pos}{it acc:Value}{env:Env}{R:Result→Shared→Prop}{s:Shared}(hf:∀x,foldedSetIterable piter2 env x=pure x)(h:wpAny (model P X.w) A (pyNext it) (λr s₁=>match r with
   |none=>R (.ok .next) s₁
   |some v=>wpAny (model P X.w) A (letOwnedTupleGo pt it v) (λξ s₁'=>wpAny (model P X.w) A (assign pt env v) (λ_ s₂ =>
     wpAny (model P X.w) A (eval piter2 env) (λx s₃=>wpAny (model P X.w) A (pyIter x) (λit2 s₄ =>
      codeAny (model P X.w) A (.compStart (.ListComp pelt [⟨pt,piter,[],0⟩,⟨pt2,piter2,[],0⟩] scC pos) 1 it2 acc env) (λres s₅=>match res with
       |.ok _=>codeAny (model P X.w) A (.compLoop (.ListComp pelt [⟨pt,piter,[],0⟩,⟨pt2,piter2,[],0⟩] scC pos) 0 it acc env) R s₅
       |.error _=>False) s₄) nor s₃) nor s₂) nor s₁') nor s₁) nor s) :
  codeAny (model P X.w) A (.compLoop (.ListComp pelt [⟨pt,piter,[],0⟩,⟨pt2,piter2,[],0⟩] scC pos) 0 it acc env) R s:=by
 refine codeAny_of_tree ?_
 rw[show A.under (.compLoop (.ListComp pelt [⟨pt,piter,[],0⟩,⟨pt2,piter2,[],0⟩] scC pos) 0 it acc env)=A from Around.under_of_weight rfl]
 show wpAny _ A ((compTurn (.ListComp pelt [⟨pt,piter,[],0⟩,⟨pt2,piter2,[],0⟩] scC pos) 0 it acc env).onRaise (λx=>do noteFrame x env;theTreesLotGoes x)) _ _ s
 refine wpAny_noted ?_
 rw[DY]
 refine wpAny_bind (wpAny_standAt (wpAny_bind (wpAny_mono h (λr s₁ h₁=>?_) λξ ξ h'=>h'.elim)))
 cases r with
 |none=>exact wpAny_pure h₁
 |some v =>
  refine wpAny_bind (wpAny_mono h₁ (λξ s₁' h₁'=>?_) λξ ξ h'=>h'.elim)
  refine wpAny_bind (wpAny_mono h₁' (λξ s₂ h₂=>wpAny_bind (wpAny_mono h₂ (λx s₃ h₃=>?_) λξ ξ h'=>h'.elim)) λξ ξ h'=>h'.elim)
  refine wpAny_bind (wpAny_standAt (wpAny_bind (wpAny_of_eq (hf x) (wpAny_bind (wpAny_holding (wpAny_mono h₃ (λit2 s₄ h₄=>?_) λξ ξ h'=>h'.elim))))))
  refine wpAny_bind (wpAny_runOwn (codeAny_mono h₄ λres s₅ h₅=>?_))
  cases res with
  |error e=>exact h₅.elim
  |ok f=>exact wpAny_pure ⟨rfl,h₅⟩
end
noncomputable def uD(X:Pk)(r:Nat)(elt:Ex)(k k2:Nat)(it2:Ie)(it:It)(ρ acc:List V)(w:W)(ds:List V)(w':W):Prop:=
 ∀pt piter pt2 piter2 pelt sc' scC pos N own2,Tr sc' (N++own2) pelt elt→TrI sc' N piter2 it2→vO sc' (N++own2) pt k ρ.length→vO sc' (N++own2) pt2 k2 (ρ.length+k)→own2.length=k2→N.length=ρ.length+k→(∀x∈own2,x∉N) →
  ∀S js D env φ0 w0 s0 φ s A I vals v2,vals.length=k→v2.length=k2→jU X r S js I it D env sc' (N++own2) φ0 w0 s0 φ w s A (ρ++vals++v2) acc →
   codeAny (model P X.w) A (.compLoop (.ListComp pelt [⟨pt,piter,[],0⟩,⟨pt2,piter2,[],0⟩] scC pos) 0 (.ref I) (.ref D) env) (okR (Jc X r S js I D env sc' (N++own2) φ0 w0 s0 A ρ ds w')) s
section
variable{X:Pk}{r:Nat}{ρ ρ1 ρ2:List V}{w w1 w2 w3 w4:W}
theorem uD.stop{elt:Ex}{it2:Ie}{k k2:Nat}{it:It}{acc:List V}(hz:mK it=false)(h:kU it w=some none):uD X r elt k k2 it2 it ρ acc w acc w:=λpt piter pt2 piter2 pelt sc' scC pos N own2 h1 h2 h3 h4 hl2 hN hd S js D env φ0 w0 s0 φ s A I vals v2 hv hv2 Z=>by
 obtain⟨tg,htg⟩:=MA h3
 refine Ag (h2.fold env) ((Nx.ok (r:=r) h φ s A I js pt sc' _ tg Z.x Z.own Z.F.C Z.F.M htg (uE hz tg)).mono λx s1 hx=>?_)
 cases x with
 |none=>exact⟨_,CU.mk φ s (vals++v2) it rfl (by rw[←bV];exact Z) hx.2⟩
 |some v=>exact Cz hx
theorem Fh{S B:Addr→Prop}{js js2:List Addr}{I I2 D:Addr}{it i2:It}{env:Env}{sc':Scope}{N:List Str}{φ0 φ5:List Addr}{w0:W}{s0 sA s5 s6:Shared}{A A':Around}{own:List V}{acc acc':List V}{ρ':List V}(Z:jU X r S js I it D env sc' N φ0 w0 s0 φ5 w1 sA A ρ' acc)(St:jG X B js2 φ5 sA s5 I2 i2)(C5:Cst (X.with B) φ5 w1 s5)(hJ2D:¬D∈js2){vals2:List V}{it3:It}{φ6:List Addr}{s7:Shared}(Z7:jU (X.with B) r S js2 I2 it3 D env sc' N φ5 w1 s5 φ6 w2 s7 A' (own++vals2) acc')(E:tF (X.with B) s7 js2 s6) :
  jU X r S js I it D env sc' N φ0 w0 s0 φ6 w2 s6 A (own++vals2) acc':=by
 have Tg':fR (X.with B) (λa=>(S a∨a=D)∨a∈js2) φ5 w1 sA φ5 w1 s5:=⟨cA _,Z.F.C.len,C5,λa o e ξ ξ=>St.kept a o e,λn a e h=>AB e h,λa h=>lX (St.kept a) h,.refl w1⟩
 have T7:=Tg'.trans (Z7.step.weak λa ha=>ha.elim (λha=>ha.elim (λq=>.inl (.inl q)) .inr) λq=>.inl (.inr q))
 obtain⟨TE,K⟩:=fR.ended (X:=X) Z.F.C T7 St.fresh Z7.own ⟨E.gens,E.os,E.kept⟩
 have R6:fW X S φ6 env sc' N (own++vals2) s6.heap:=fW.chg (X:=X.with B) (X':=X) (Z7.F.R.iter Z7.own Z7.dis E.kept) rfl nN
 have mSD:vS X (λa=>S a∨a=D) sA.heap:=λa o ha e=>ha.elim (λq=>vS.ofEnv Z.F.R a o q e) λq=>vS.own Z.acc.owned a o (aG.mpr q) e
 have q:=mF.keep2 Z.F.C TE mSD Z.own (λa ha q=>q.elim (Z.dis a ha) λq=>Z.jd (q▸ha)) Z.x
 refine⟨Z.step.trans (TE.weak λa ha=>ha.elim (λq=>.inl (.inl q)) .inr),⟨R6,TE.cst,Z.F.M⟩,Z.dis,Z.jd,Z.sd,q.1,q.2,Z7.acc.at_.casesOn λn vs e rr l=>⟨⟨n,vs,E.kept _ _ hJ2D e,fU.keepsG (X:=X.with B) (X':=X) (λd v q=>nN d v (q.keeps K)) _ _ rr,l⟩,Z7.acc.out,Z7.acc.new⟩⟩
theorem uD.turn{elt:Ex}{it2:Ie}{k k2:Nat}{it it' i2:It}{acc acc' own ds:List V}{v:V}(hz:mK it=false)(h:kU it w=some (some (v,it')))(ho:yB k v=some own)(hi:pB X r it2 (ρ++own) w i2 w1)(hin:∀B,vU (X.with B) r elt k2 .nil i2 (ρ++own) acc w1 acc' w2)(hn:uD X r elt k k2 it2 it' ρ acc' w2 ds w3):uD X r elt k k2 it2 it ρ acc w ds w3:=λpt piter pt2 piter2 pelt sc' scC pos N own2 h1 h2 h3 h4 hl2 hN hd S js D env φ0 w0 s0 φ s A I vals v2 hv hv2 Z=>by
 have hol:=(uK ho).1
 obtain⟨tg,htg,ha⟩:=zK (X:=X) (r:=r) (w:=w) (post:=v2) h3 ho hv
 refine Ag (h2.fold env) ((Nx.ok (r:=r) h φ s A I js pt sc' _ tg Z.x Z.own Z.F.C Z.F.M htg (uE hz tg)).mono λx s1 hx=>?_)
 cases x with
 |none=>cases hx.1
 |some v =>
  refine(Cy hx).mono λξ s2 q=>?_
  have Z2:=Z.turned q
  refine ha.use htg Z2.F q.rep λφ3 s3 T3 F3=>?_
  have Z3:=Z2.stepS T3 F3.R
  have FN:Fr X r S φ3 env sc' N (ρ++own) w s3 A:=⟨F3.R.narrow (by rw[aD,hol,hN]) hd,F3.C,F3.M⟩
  refine(hi _ _ _ h2 _ _ _ _ _ FN).mono λxv s4 hs4=>WP.mono hs4 λitv s5 q=>q.casesOn λφ5 sA B I2 js2 e T5 St=>?_
  rw[e]
  have RA:=F3.R.step F3.C T5
  have ZA:=Z3.stepS T5.up RA
  have C5:=St.cst T5.cst
  have hJ2D:¬D∈js2:=λq=>ZA.acc.at_.casesOn λn vs e ξ ξ=>by rw[St.fresh D q] at e;cases e
  have ZI:jU (X.with B) r S js2 I2 i2 D env sc' (N++own2) φ5 w1 s5 φ5 w1 s5 A (ρ++own++v2) acc:=⟨fR.refl C5,⟨St.toEnv RA,C5,F3.M⟩,St.apart RA,hJ2D,Z.sd,St.at_,St.own,
   ZA.acc.at_.casesOn λn vs e rr l=>⟨⟨n,vs,St.kept _ _ e,(fU.keepsG (X:=X) (X':=X.with B) (yP St.noB) _ _ rr).kept (cA _) St.kept,l⟩,ZA.acc.out,ZA.acc.new⟩⟩
  have inner:=codeAny_mono (hin B (.ListComp pelt [⟨pt,piter,[],0⟩,⟨pt2,piter2,[],0⟩] scC pos) 1 pt2 piter2 [] pelt sc' (N++own2) ⟨⟨_,_,_,rfl⟩,λit acc env=>rfl⟩ h1 rfl (cX _) (by rw[aD,hol];exact h4) S js2 D env φ5 w1 s5 φ5 s5 A I2 v2 hv2 ZI)
   (R':=λres s6=>match res with
    |.ok _=>codeAny (model P X.w) A (.compLoop (.ListComp pelt [⟨pt,piter,[],0⟩,⟨pt2,piter2,[],0⟩] scC pos) 0 (.ref I) (.ref D) env) (okR (Jc X r S js I D env sc' (N++own2) φ0 w0 s0 A ρ ds w3)) s6
    |.error _=>False) λres s6 hres=>by
   cases res with
   |error e=>exact hres.elim
   |ok f=>exact CU.casesOn hres λφ6 s7 vals2 it3 hv3 Z7 E=>hn pt piter pt2 piter2 pelt sc' scC pos N own2 h1 h2 h3 h4 hl2 hN hd S js D env φ0 w0 s0 φ6 s6 A I own vals2 hol hv3 (Fh ZA St C5 hJ2D Z7 E)
  exact BK (X:=X) inner (mF.self St.at_ inner)
theorem Ev.comp2{elt:Ex}{it it2:Ie}{k k2:Nat}{i:It}{ds:List V}(h1:pB X r it ρ w i w1)(h2:∀B,uD (X.with B) r elt k k2 it2 i ρ [] w1 ds w2) :
  Ev X r (.comp2 elt k it k2 it2) ρ w (.ref w2.next) (w2.add (.list ds))∧EvU X r (.comp2 elt k it k2 it2) ρ w (.ref w2.next) (w2.add (.list ds)):=
 Ev.comp λpy sc ns ht S env φ s A F use Q fin=>(CO (OA ht)).casesOn λelt0 gs sc' pos z=>by
  obtain⟨⟨t0,it0,ifs,n⟩,⟨t2,it20,ifs2,n2⟩,rfl,z⟩:=Bu z
  obtain⟨z1,z⟩:=and2 z
  obtain⟨z2,z⟩:=and2 z
  obtain⟨z3,z⟩:=and2 z
  obtain⟨z4,z⟩:=and2 z
  obtain rfl:n=0:=of_decide_eq_true z1
  obtain rfl:n2=0:=of_decide_eq_true z2
  obtain rfl:ifs=[]:=cF.mp z3
  obtain rfl:ifs2=[]:=cF.mp z4
  obtain⟨own,z,hlen,tg⟩:=GG (sc':=sc') (vY z)
  obtain⟨own2,z,hlen2,tg2⟩:=GG (sc':=sc') (vY z)
  obtain⟨hok,z⟩:=and2 z
  obtain⟨hdis,z⟩:=and2 z
  obtain⟨hit,z⟩:=and2 z
  obtain⟨hit2,helt⟩:=and2 z
  have ok:=Ah hok
  refine⟨elt0,[⟨t0,it0,[],0⟩,⟨t2,it20,[],0⟩],sc',pos,rfl,CL (it:=it) (own:=own++own2) (ds:=ds) rfl ok hit h1 (λB S' js D env' φ0 w0 s0 φ' s' A' I Z=>?_) F fin⟩
  have e0:ns++(own++own2)=(ns++own)++own2:=(bV ..).symm
  have t1:vO sc' ((ns++own)++own2) t0 k ρ.length:=by
   have:=(tg ns own2).tgt ok.nd (λx hx=>ok.mine x (cG _ hx)) (λx hx=>ok.odd x (cG _ hx))
   rw[F.R.len];exact this
  have t2:vO sc' ((ns++own)++own2) t2 k2 (ρ.length+k):=by
   have:=(tg2 (ns++own) []).tgt (by rw[cD];have:=ok.nd;rw[dI] at this;exact this.2.1) (λx hx=>ok.mine x (dW _ hx)) (λx hx=>ok.odd x (dW _ hx))
   rw[cD,aD,hlen] at this
   rw[F.R.len];exact this
  have eρ:ρ++aV (own++own2).length V.unset=ρ++aV own.length V.unset++aV own2.length V.unset:=by
   rw[aD,←List.replicate_append_replicate,bV]
  rw[e0] at Z ⊢
  rw[eρ] at Z
  exact h2 B t0 it0 _ it20 elt0 sc' sc' pos (ns++own) own2 helt hit2 t1 t2 hlen2 (by rw[aD,hlen,F.R.len]) (λx hx hm=>by
   have:=cC.mp hdis x hx
   rw[dU] at this
   exact bC (this.symm.trans (List.contains_iff_mem.mpr hm))) S' js D env' φ0 w0 s0 φ' s' A' I _ _ (by rw[dK,hlen]) (by rw[dK,hlen2]) Z
end
end
section
open PySem PySem.W PySem.Calls PyProof.Rows
set_option maxRecDepth 100000
noncomputable def kG:List (List Nat):=(aX 16).map λm=>[1,2,3,4].filter λv=>m.testBit (v-1)
noncomputable def gO(l:List Nat)(led:Bool):SetTable:={mask:=7,place:=l.toArray,dummies:=#[],finger:=0,led:=led,moves:=0,plain:=true}
noncomputable def tP(v:Nat):List Nat→Nat:=List.rec 0 λx ξ y=>if v<x then 0 else y+1
theorem Jt:∀l∈kG,∀v∈[1,2,3,4],∀b:Bool,v∉l→(gO l b).freeSlot (v:Int)=some (v,false)∧(gO l b).put v=(gO (sT v l) b,tP v l)∧(gO (sT v l) b).tooFull=false∧sT v l∈kG:=by
 decide +kernel
theorem tL:∀l∈kG,∀b:Bool,(gO l b).fits l.length=true:=by decide +kernel
theorem nM:∀l∈kG,l.length≤4:=by decide +kernel
theorem Ju:∀l∈kG,∀v∈[1,2,3,4],BN l v∈kG:=by decide +kernel
theorem Bd:[]∈kG:=by decide +kernel
theorem tT:∀v∈[1,2,3,4],hashInt ((v:Nat):Int)=v:=by decide +kernel
theorem Gl:∀(l:List Nat),(∀v∈l,v∈[1,2,3,4])→iN l∈kG:=by
 have key:∀(l a:List Nat),(∀v∈l,v∈[1,2,3,4])→a∈kG→l.foldl BN a∈kG:=by
  intro l
  induction l with
  |nil=>intro a _ h;exact h
  |cons x r ih=>intro a h1 h2;exact ih _ (λv hv=>h1 v (bA _ hv)) (Ju a h2 x (h1 x aZ))
 exact λl h=>key l [] h Bd
noncomputable def zQ(l:List Nat):Nat→Nat
 |0=>0
 |k+1=>l.getD k 0+1
theorem EP:∀l∈kG,∀k∈[0,1,2,3,4],k≤l.length→SetTable.below l.toArray (zQ l k)=k:=by decide +kernel
inductive mG:List (Int×Value)→List Nat→Prop
 |nil:mG [] []
 |cons {es l} (n:Nat) (t:Tok):mG es l→mG (((n:Int),.int (n:Int) t)::es) (n::l)
theorem mG.len{es l}(h:mG es l):es.length=l.length:=by
 induction h with
 |nil=>rfl
 |cons n t h ih=>exact congrArg (· + 1) ih
theorem mG.at{es l}(h:mG es l):∀{i n:Nat},l[i]?=some n→∃t,es[i]?=some ((n:Int),.int (n:Int) t):=by
 induction h with
 |nil=>intro i n e;simp at e
 |cons m t h ih =>
  intro i n e
  cases i with
  |zero=>simp at e;subst e;exact⟨t,rfl⟩
  |succ i=>simpa using ih (by simpa using e)
theorem mG.ins{es l}(h:mG es l)(v:Nat)(t:Tok):mG (es.take (tP v l)++((v:Int),.int (v:Int) t)::es.drop (tP v l)) (sT v l):=by
 induction h with
 |nil=>exact .cons v t .nil
 |@cons es l m u h ih =>
  show mG ((_::es).take (if v<m then 0 else tP v l+1)++_::(_::es).drop (if v<m then 0 else tP v l+1)) (if v<m then v::m::l else m::sT v l)
  by_cases q:v<m
  ·rw[if_pos q,if_pos q];exact .cons v t (.cons m u h)
  ·rw[if_neg q,if_neg q];exact .cons m u ih
theorem mG.elems{prog:Program}{w:World}{es l}(h:mG es l)(hl:∀v∈l,v∈[1,2,3,4]):ElemsOf (intKind prog w) es:=by
 induction h with
 |nil=>intro e he;cases he
 |cons n t h ih =>
  intro e he
  rcases bJ.mp he with rfl | he
  ·exact⟨⟨(n:Int),by simp[intKind,Value.isInt],(tT n (hl n aZ)).symm⟩,rfl⟩
  ·exact ih (λv hv=>hl v (bA _ hv)) e he
theorem mG.find{prog:Program}{w:World}{es l}(h:mG es l)(v:Nat):(es.findIdx? λe=>(intKind prog w).is (v:Int) e.2).isSome=decide (v∈l):=by
 induction h with
 |nil=>simp
 |cons n t h ih =>
  rw[List.findIdx?_cons]
  by_cases e:v=n
  ·subst e
   have:(intKind prog w).is (v:Int) (Value.int (v:Int) t)=true:=by simp[intKind,Value.isInt]
   simp[this]
  ·have:(intKind prog w).is (v:Int) (Value.int (n:Int) t)=false:=by
    simp[intKind,Value.isInt];lia
   simp only[this,Bool.false_eq_true,if_false,Option.isSome_map,ih,bJ,e,false_or]
noncomputable def jA(h:Heap)(a:Addr)(led:Bool)(l:List Nat):Prop:=∃es ep,h.get? a=some {cls:=.type "set",dict:=none,data:=.set es ep (gO l led),slots:=#[]}∧mG es.toList l∧l∈kG
theorem QU:∀l∈kG,∀v∈l,v∈[1,2,3,4]:=by decide +kernel
theorem jA.keep{h h':Heap}{a:Addr}{led:Bool}{l:List Nat}(x:jA h a led l)(k:∀o,h.get? a=some o→h'.get? a=some o):jA h' a led l:=by
 obtain⟨es,ep,e,r⟩:=x;exact⟨es,ep,k _ e,r⟩
section
variable{prog:Program}{w:World}{A:Around}{E:Value→Shared→Prop}{s:Shared}
theorem Cp{a:Addr}{led:Bool}{l:List Nat}{v:Nat}{t:Tok}{Q:Bool→Shared→Prop}(hS:jA s.heap a led l)(hv:v∈[1,2,3,4])(h:∀b h',Heap.SameBut a s.heap h'→jA h' a led (BN l v)→Q b {s with heap:=h'}):wpAny (model prog w) A (setAddHashed a (.int (v:Int) t) (v:Int)) Q E s:=by
 obtain⟨es,ep,ho,hes,hl⟩:=hS
 have hfit:(gO l led).fits es.size=true:=by rw[←eP,hes.len];exact tL l hl led
 have hel:ElemsOf (intKind prog w) es.toList:=hes.elems (QU l hl)
 have hsz:es.size≤4:=by rw[←eP,hes.len];exact nM l hl
 have hkey:(intKind prog w).is (v:Int) (.int (v:Int) t)=true:=by simp[intKind,Value.isInt]
 have hhash:(intKind prog w).hash (v:Int)=v:=tT v hv
 unfold setAddHashed setAddHashedIn
 refine wpAny_holding (wpAny_bind (wpAny_setState_of ho rfl hfit ?_))
 dsimp only
 rw[byScan_of (knd:=intKind prog w) rfl (by unfold scanBound;lia) hel]
 simp only[↓reduceIte]
 unfold setAddByScan
 refine wpAny_bind ?_
 refine wpAny_bind (wpAny_rule ?_)
 have hscan:∀(Q':ScanMet→Shared→Prop),Q' (match es.toList.findIdx? (λe=>(intKind prog w).is (v:Int) e.2) with | some j=>.found (0+j) | none=>.absent) s →
   wpAny (model prog w) A (setScan a (.int (v:Int) t) (v:Int) true es) Q' E s:=λQ' q=>by
  have:=wpAny_setScan_of (adding:=true) (A:=A) (E:=E) hkey ho rfl hfit hel q
  rwa [hhash] at this
 refine wpAny_bind (hscan _ ?_)
 have hf:=hes.find (prog:=prog) (w:=w) v
 cases hr:es.toList.findIdx? (λe=>(intKind prog w).is (v:Int) e.2) with
 |some j =>
  rw[hr] at hf
  have hin:v∈l:=by simpa using hf.symm
  dsimp only
  refine wpAny_pure (wpAny_pure ?_)
  have e:s={s with heap:=s.heap}:=by cases s;rfl
  rw[e]
  refine h false s.heap (Heap.SameBut.refl a s.heap) ?_
  unfold BN;rw[if_pos hin];exact⟨es,ep,ho,hes,hl⟩
 |none =>
  rw[hr] at hf
  have hin:v∉l:=by simpa using hf.symm
  dsimp only
  obtain⟨p1,p2,p3,p4⟩:=Jt l hl v hv led hin
  have hes':mG (SetTable.insertAt es (tP v l) ((v:Int),Value.int (v:Int) t)).toList (sT v l):=by
   have:=hes.ins v t
   unfold SetTable.insertAt
   have e1:(es.extract 0 (tP v l)).toList=es.toList.take (tP v l):=by simp
   have e2:(es.extract (tP v l) es.size).toList=es.toList.drop (tP v l):=by
    rw[Array.toList_extract];simp[eC]
   rw[Array.toList_append,Array.toList_push,e1,e2,bV]
   exact this
  have hsz':(SetTable.insertAt es (tP v l) ((v:Int),Value.int (v:Int) t)).size=(sT v l).length:=by rw[←eP,hes'.len]
  have hfit':(gO (sT v l) led).fits (SetTable.insertAt es (tP v l) ((v:Int),Value.int (v:Int) t)).size=true:=by rw[hsz'];exact tL _ p4 led
  have hlay:layNew (gO l led) es (v:Int) (.int (v:Int) t)=(SetTable.insertAt es (tP v l) ((v:Int),Value.int (v:Int) t),gO (sT v l) led,false,false):=by
   unfold layNew
   rw[p1]
   dsimp only
   rw[p2]
   dsimp only
   unfold SetTable.orStandIn
   rw[if_pos hfit',hfit']
   rfl
  rw[hlay]
  dsimp only
  refine wpAny_bind (wpAny_pure ?_)
  have hplain:(gO (sT v l) led).plain=true:=rfl
  rw[hplain]
  simp only[if_true]
  refine wpAny_bind ?_
  rw[hashByValue_scannable 8 rfl]
  refine wpAny_pure ?_
  show wpAny _ _ (do
   storeSet a (SetTable.insertAt es (tP v l) ((v:Int),Value.int (v:Int) t)) (gO (sT v l) led)
   if(!false&&(gO (sT v l) led).tooFull)=true then _ else _) _ _ _
  rw[p3]
  refine wpAny_bind (wpAny_storeSet_of ho rfl ?_ (fits_of_scanBound (by rw[hsz'];have:=nM _ p4;unfold scanBound;lia)))
  have hg:=dL (Obj.putSet (SetTable.insertAt es (tP v l) ((v:Int),Value.int (v:Int) t)) (gO (sT v l) led)) ho rfl
  refine wpAny_pure (wpAny_pure (h true _ (Heap.SameBut.update ..) ?_))
  unfold BN;rw[if_neg hin]
  exact⟨_,_,hg,hes',p4⟩
end
structure Src(prog:Program)(w:World)(T:String)(r:Addr)(n:Nat)(P:Nat→Value→Prop)(OK:Heap→Prop):Prop where
 type:∀s:Shared,OK s.heap→s.TypeIs (.ref r) T
 lt:∀h,OK h→r<h.objs.size
 keep:∀h h',OK h→(∀o,h.get? r=some o→h'.get? r=some o)→OK h'
 notSet:isSubtype (.type T) (.type "set")=pure false
 notFroz:isSubtype (.type T) (.type "frozenset")=pure false
 notDict:(Value.type T==Value.type "dict")=false
 iter:∀(A:Around) (s:Shared),A.handled=none→OK s.heap→∃(oI:Obj) (St:Nat→Heap→Prop),
  (∀(E:Value→Shared→Prop) (Q:Value→Shared→Prop),Q (.ref s.heap.objs.size) {s with heap:=s.heap.push oI}→wpAny (model prog w) A (pyIter (.ref r)) Q E s) ∧
  Walks prog w A s.heap.objs.size [s.heap.objs.size,r] [s.heap.objs.size] n P St∧St 0 (s.heap.push oI)
theorem BD:isSubtype (.type "tuple") (.type "set")=pure false:=by rw[isSubtype_type];kernel_rfl
theorem sS:isSubtype (.type "tuple") (.type "frozenset")=pure false:=by rw[isSubtype_type];kernel_rfl
theorem Src.list(prog:Program)(w:World)(l:Addr)(items:Array Value):Src prog w "list" l items.size (λi v=>items[i]?=some v) (λh=>h.IsList l items) where
 type:=λξ h=>h.typeIs
 lt:=λh x=>let⟨_,e,_⟩:=x;cY e
 keep:=λξ ξ x k=>x.at k
 notSet:=PySem.F.sub_list_set
 notFroz:=PySem.F.sub_list_frozenset
 notDict:=by decide
 iter:=λA s hh x=>⟨_,_,(λξ ξ q=>wpAny_pyIter_list x q),Walks.list hh _ l (by obtain⟨_,e,_⟩:=x;exact bG (cY e)) items,⟨⟨_,aW _ rfl,rfl,rfl⟩,x.push _⟩⟩
theorem Src.tuple(prog:Program)(w:World)(l:Addr)(items:Array Value):Src prog w "tuple" l items.size (λi v=>items[i]?=some v) (λh=>IsTup h l items) where
 type:=λξ h=>let⟨o,e,c,_⟩:=h;⟨o,e,c⟩
 lt:=λh x=>let⟨_,e,_⟩:=x;cY e
 keep:=λξ ξ x k=>let⟨o,e,r⟩:=x;⟨o,k _ e,r⟩
 notSet:=BD
 notFroz:=sS
 notDict:=by decide
 iter:=λA s hh x=>by
  refine⟨_,_,(λξ ξ q=>iter_tuple x q),Walks.tuple hh _ l (by obtain⟨_,e,_⟩:=x;exact bG (cY e)) items,⟨⟨_,aW _ rfl,rfl,rfl⟩,?_⟩⟩
  obtain⟨o,e,c,n,d⟩:=x
  exact⟨o,aR _ e,c,n,d⟩
theorem FU(l:List Nat)(v:Nat):iN (l++[v])=BN (iN l) v:=by unfold iN;rw[eO];rfl
section
variable{prog:Program}{w:World}{A:Around}{R:Result→Shared→Prop}{I:Addr}{fp wr:List Addr}{G:Array GenState→Array GenState→Prop}{n:Nat}{P:Nat→Value→Prop}{St:Nat→Shared→Prop}
theorem CX(W:WalksS prog w A.in1 I fp wr G n P St)(S:Addr)(hSf:S∉fp)(led:Bool)(val:Nat→Nat)(hval:∀i v,P i v→∃t,v=.int (val i) t)(hok:∀i,i<n→val i∈[1,2,3,4]) :
  ∀(k i:Nat) (s:Shared),i+k=n→i≤n→St i s→jA s.heap S led (iN ((aX i).map val)) →
   (∀s',Moved (S::wr) G s s'→jA s'.heap S led (iN ((aX n).map val))→R (.ok (.ret .none)) s') →
   codeAny (model prog w) A (.builtin "set.update.loop" ⟨[.ref S,.ref I],[]⟩) R s:=by
 have hSw:S∉wr:=λh=>hSf (W.sub _ h)
 have hsub:∀b∈wr,b∈S::wr:=λb hb=>bA _ hb
 intro k
 induction k with
 |zero =>
  intro i s hk hi hst hS hR
  obtain rfl:i=n:=hk
  refine codeAny_builtin PyProof.Rows.F.entry_set_update_loop ?_
  rw[Around.under_plainId PyProof.Rows.F.plain_set_update_loop _]
  show wpAny _ A.in1 (pyNext (.ref I) >>= _) _ _ s
  refine wpAny_bind (W.done s _ _ hst λs' hm=>?_)
  exact wpAny_pure (hR s' (hm.mono hsub) (hS.keep λo e=>hm.heap S o hSw e))
 |succ k ih =>
  intro i s hk hi hst hS hR
  have hlt:i<n:=hk▸fD (fM k)
  refine codeAny_builtin PyProof.Rows.F.entry_set_update_loop ?_
  rw[Around.under_plainId PyProof.Rows.F.plain_set_update_loop _]
  show wpAny _ A.in1 (pyNext (.ref I) >>= _) _ _ s
  refine wpAny_bind (W.item i s _ _ hlt hst λv s' hP hst' hm=>?_)
  obtain⟨t,rfl⟩:=hval i v hP
  have hS':=hS.keep λo e=>hm.heap S o hSw e
  show wpAny _ A.in1 (holding [Value.int (val i) t] (setAdd S (.int (val i) t)) >>= _) _ _ s'
  refine wpAny_bind (wpAny_holding ?_)
  unfold setAdd
  refine wpAny_holding ?_
  refine wpAny_bind ((intKind prog w).pyHash (k:=((val i:Nat):Int)) (by simp[intKind,Value.isInt]) ?_)
  rw[show(intKind prog w).hash ((val i:Nat):Int)=((val i:Nat):Int) from tT _ (hok i hlt)]
  refine Cp (s:={s' with toks:=s'.toks+1}) hS' (hok i hlt) λb h' hsb hS2=>?_
  have hSi:jA h' S led (iN ((aX (i+1)).map val)):=by
   rw[List.range_succ,aI,aY,List.map_nil,FU];exact hS2
  refine wpAny_pure ⟨plainId_quiet PyProof.Rows.F.plain_set_update_loop _,ih (i+1) _ ((eK i k).trans hk) hlt (W.frame _ s' _ _ hst' (eQ _) λb hb o e=>?_) hSi λs'' hm'' hS''=>?_⟩
  ·rw[hsb.2 b (λh:b=S=>hSf (by rw[←h];exact hb))];exact e
  ·refine hR s'' (Moved.trans W.gtrans ((hm.mono hsub).then_heap (eQ _) λb o hb e=>?_) hm'') hS''
   rw[hsb.2 b (λh:b=S=>hb (by rw[h];exact aZ))];exact e
end
section
variable{prog:Program}{w:World}{A:Around}{E:Value→Shared→Prop}{s:Shared}
noncomputable def gN(prog:Program)(w:World):Bool:=(⟨prog,w.params⟩:Setting).params.followText "set-order"
theorem Ej(a:Value){Q₁:Value→Shared→Prop}(h:Q₁ (.ref s.heap.objs.size) {s with heap:=s.heap.push {cls:=.type "set",dict:=none,data:=.set #[] 0 (gO [] (!gN prog w))}}) :
  codeAny (model prog w) A (.call (.builtin "set.__new__") ⟨[.type "set",a],[]⟩) (wants Q₁ E) s:=by
 refine codeAny_of_tree ?_
 show wpAny _ A.in1 (do checkBuiltinCall "set.__new__" ⟨[.type "set",a],[]⟩;again (.builtin "set.__new__" ⟨[.type "set",a],[]⟩)) _ _ s
 refine wpAny_bind (wpAny_of_eq (PySem.F.newCall_set_1 a) (wpAny_pure ⟨plainId_quiet PySem.F.plain_set_new _,codeAny_builtin PySem.F.entry_set_new ?_⟩))
 rw[Around.under_plainId PySem.F.plain_set_new _]
 unfold Builtin.«set.__new__» Builtin.Frozenset.newClass
 have hsub:=sub_set_self
 obtain⟨hp,g,d,tk,os⟩:=s
 dsimp only
 wp_walk
 refine wpAny_askSetting (wpAny_pure ?_)
 dsimp only
 simp only[newObj]
 refine wpAny_bind (wpAny_alloc (wpAny_pure ?_))
 exact wpAny_pure h
end
section
variable{prog:Program}{w:World}{A:Around}{E:Value→Shared→Prop}{s:Shared}
set_option maxHeartbeats 3200000 in
theorem vK{T:String}{r:Addr}{n:Nat}{P:Nat→Value→Prop}{OK:Heap→Prop}(K:Src prog w T r n P OK){Q:Value→Shared→Prop}(hh:A.handled=none)(hok:OK s.heap)(val:Nat→Nat)(hval:∀i v,P i v→∃t,v=.int (val i) t)(hin:∀i,i<n→val i∈[1,2,3,4])(h:∀(h':Heap) (tk:Nat),jA h' s.heap.objs.size (!gN prog w) (iN ((aX n).map val))→(∀b o,s.heap.get? b=some o→h'.get? b=some o)→Q (.ref s.heap.objs.size) {s with heap:=h',toks:=tk}) :
  wpAny (model prog w) A (call (.type "set") [.ref r]) Q E s:=by
 obtain⟨c,tl,hmro⟩:=PySem.F.called_set.mro
 have hmade:=PySem.F.called_set.made
 have hsub:=PySem.F.called_set.sub
 refine wpAny_call (codeAny_of_tree ?_)
 show wpAny _ _ (callAny (.type "set") _) _ _ _
 refine wpAny_pure ⟨Code.quiet_builtin _ (by decide +kernel),codeAny_builtin PySem.F.entry_type_call ?_⟩
 rw[Around.under_plain (weight_type_call_type "set" [.ref r] []) rfl]
 have h1:=PySem.F.called_set.notType
 have h2:=PySem.F.called_set.canCreate
 have hct:=PySem.F.typeCall_set_1 (.ref r)
 repeat (any_goals (first | assumption | wp_step))
 refine codeAny_mono (Ej (.ref r) (E:=E) (Q₁:=λobj s₁=>obj=.ref s.heap.objs.size∧s₁={s with heap:=s.heap.push {cls:=.type "set",dict:=none,data:=.set #[] 0 (gO [] (!gN prog w))}}) ⟨rfl,rfl⟩) λr1 s₁ hr=>?_
 rcases r1 with e | (_ | _ | _ | obj)
 ·exact hr
 ·exact hr.elim
 ·exact hr.elim
 ·exact hr.elim
 ·
   obtain⟨rfl,rfl⟩:=hr
   have up:∀b o,s.heap.get? b=some o→(s.heap.push {cls:=.type "set",dict:=none,data:=.set #[] 0 (gO [] (!gN prog w))}).get? b=some o:=λb o e=>aR _ e
   have hS:(s.heap.push {cls:=.type "set",dict:=none,data:=.set #[] 0 (gO [] (!gN prog w))}).get? s.heap.objs.size=some {cls:=.type "set",dict:=none,data:=.set #[] 0 (gO [] (!gN prog w))}:=aW _ rfl
   have hT:Shared.TypeIs {s with heap:=s.heap.push {cls:=.type "set",dict:=none,data:=.set #[] 0 (gO [] (!gN prog w))}} (.ref s.heap.objs.size) "set":=⟨_,hS,rfl⟩
   have hli:=PySem.F.called_set.init.lookup
   have hbi:=PySem.F.called_set.init.bind (.ref s.heap.objs.size)
   repeat (any_goals (first | assumption | wp_step))
   refine codeAny_mono (codeAny_call_builtin (R:=wants (λr2 s₂=>r2=.none∧∃h' tk,s₂={s with heap:=h',toks:=tk} ∧
     jA h' s.heap.objs.size (!gN prog w) (iN ((aX n).map val))∧(∀b o,s.heap.get? b=some o→h'.get? b=some o)) E) PySem.F.called_set.init.plain PySem.F.entry_set_init (check_set_init_1 hT ?_)) λr₂ s₂ hr₂=>?_
   ·have hok1:OK (s.heap.push {cls:=.type "set",dict:=none,data:=.set #[] 0 (gO [] (!gN prog w))}):=K.keep _ _ hok λo e=>up _ o e
    have hty:Shared.TypeIs {s with heap:=s.heap.push {cls:=.type "set",dict:=none,data:=.set #[] 0 (gO [] (!gN prog w))}} (.ref r) T:=K.type {s with heap:=_} hok1
    have hsls:=K.notSet
    have hslf:=K.notFroz
    have hne:=K.notDict
    unfold Builtin.«set.__init__» noKeywords Builtin.Frozenset.updateFrom Builtin.Frozenset.isAnySet
    generalize hPI:pyIter=PI
    wp_walk
    subst hPI
    have hrS:s.heap.objs.size≠r:=cP (K.lt _ hok)
    have hsz:(s.heap.push {cls:=.type "set",dict:=none,data:=.set #[] 0 (gO [] (!gN prog w))}).objs.size=s.heap.objs.size+1:=dX ..
    obtain⟨oI,St,hit,W,st0⟩:=K.iter A.in1.in1.in1 {s with heap:=s.heap.push {cls:=.type "set",dict:=none,data:=.set #[] 0 (gO [] (!gN prog w))}} (by simp[hh]) hok1
    refine wpAny_of_in1 (hit _ _ ?_)
    refine wpAny_bind (wpAny_runValue ?_)
    have hSf:s.heap.objs.size∉[(s.heap.push {cls:=.type "set",dict:=none,data:=.set #[] 0 (gO [] (!gN prog w))}).objs.size,r]:=by
     rw[hsz];simp only[bJ,eH,or_false,not_or]
     exact⟨bG (cV _),hrS⟩
    refine CX W.toS s.heap.objs.size hSf (!gN prog w) val hval hin n 0 _ (eJ _) (cX _) st0 ⟨#[],0,aR _ hS,.nil,Bd⟩ λs' hm hS'=>?_
    obtain⟨h',g',d',tk',os'⟩:=s'
    have eg:g'=s.gens:=hm.gens
    have ed:d'=s.drawn:=hm.drawn
    have eo:os'=s.os:=hm.os
    subst eg;subst ed;subst eo
    refine wpAny_pure (wpAny_pure ⟨rfl,h',tk',rfl,hS',λb o e=>?_⟩)
    have hb:b<s.heap.objs.size:=cY e
    refine hm.heap b o ?_ (aR _ (up _ _ e))
    simp only[bJ,eH,or_false,not_or]
    exact⟨bG hb,by rw[hsz];exact bG (bD hb)⟩
   ·rcases r₂ with e | (_ | _ | _ | r2)
    ·exact hr₂
    ·exact hr₂.elim
    ·exact hr₂.elim
    ·exact hr₂.elim
    ·obtain⟨rfl,h',tk,rfl,hS',hk'⟩:=hr₂
     repeat (any_goals (first | assumption | wp_step))
     exact h _ _ hS' hk'
end
theorem AY{α:Type}:∀{l:List α} {i:Nat} (h:i<l.length),(l[i]::l.eraseIdx i).Perm l
 |x::r,0,_=>.refl _
 |x::r,i+1,h=>by
  have ih:=AY (l:=r) (i:=i) (by simpa using h)
  exact(List.Perm.swap x _ _).trans (ih.cons x)
theorem IV{α:Type}(next:Nat→Nat):∀(n k:Nat) (left:List α) (out:Array α),left.length≤n→(pickOrder.go next n k left out).toList.Perm (out.toList++left)
 |0,k,left,out,h=>by
  have:left=[]:=dD.mp (by simp_all +arith)
  subst this;exact(cD _).symm▸.refl _
 |n+1,k,left,out,h=>by
  rw[show pickOrder.go next (n+1) k left out=Option.rec (motive:=λξ=>Array α) out (λx=>pickOrder.go next n (k+1) (left.eraseIdx (next k%left.length)) (out.push x)) left[next k%left.length]? from by kernel_rfl]
  cases q:left with
  |nil=>exact(cD _).symm▸.refl _
  |cons x r =>
   rw[←q]
   have hpos:0<left.length:=by rw[q];simp
   have hlt:next k%left.length<left.length:=Nat.mod_lt _ hpos
   rw[aC hlt]
   dsimp only
   have ih:=IV next n (k+1) (left.eraseIdx (next k%left.length)) (out.push left[next k%left.length]) (by rw[List.length_eraseIdx_of_lt hlt];simp_all +arith)
   refine ih.trans ?_
   rw[Array.toList_push,bV]
   refine List.Perm.append_left _ ?_
   exact AY hlt
theorem KN{α:Type}(next:Nat→Nat)(xs:Array α):(pickOrder next xs).toList.Perm xs.toList:=by
 exact IV next xs.size 0 xs.toList #[] (bH eP)
theorem iJ:Slot "set_iterator" "__next__" "set_iterator.__next__":=.of (owner:="set_iterator") (n:="__next__") (by rw[typeLookup_type,builtinLookup_eq_fast];kernel_rfl) (by decide +kernel) (by decide +kernel) (by decide +kernel) (by decide +kernel) (by rw[isSubtype_type];kernel_rfl)
theorem oA:entryFor table "set_iterator.__next__" = some Builtin.«set_iterator.__next__»:=entryFor_of_tree (by kernel_rfl)
theorem pA(a:Value):argsOk "set_iterator.__next__" ⟨[a],[]⟩:=by unfold argsOk;kernel_rfl
theorem oP:Slot "set_iterator" "__iter__" "set_iterator.__iter__":=.of (owner:="set_iterator") (n:="__iter__") (by rw[typeLookup_type,builtinLookup_eq_fast];kernel_rfl) (by decide +kernel) (by decide +kernel) (by decide +kernel) (by decide +kernel) (by rw[isSubtype_type];kernel_rfl)
theorem tW:entryFor table "set_iterator.__iter__" = some Builtin.«dict_keyiterator.__iter__»:=
 entryFor_alias (id':="dict_keyiterator.__iter__") (by kernel_rfl) (by first | rfl | decide +kernel | (unfold String.splitOn;simp +decide [String.splitOnAux])) (by decide +kernel) (by kernel_rfl)
theorem vN(a:Value):argsOk "set_iterator.__iter__" ⟨[a],[]⟩:=by unfold argsOk;kernel_rfl
theorem AZ:entryFor table "set.__iter__" = some Builtin.«frozenset.__iter__»:=
 entryFor_alias (id':="frozenset.__iter__") (by kernel_rfl) rfl (by decide +kernel) (by kernel_rfl)
theorem BM(a:Value):argsOk "set.__iter__" ⟨[a],[]⟩:=by unfold argsOk;kernel_rfl
theorem QD:isSubtype (.type "set") (.type "set")=pure true:=sub_set_self
noncomputable abbrev vZ(es:Array (Int×Value))(ep:Nat)(l:List Nat)(led:Bool):Obj:={cls:=.type "set",dict:=none,data:=.set es ep (gO l led),slots:=#[]}
noncomputable abbrev sB(a:Addr)(slot i n ep:Nat):Obj:={cls:=.type "set_iterator",dict:=none,data:=.fields #[rawInt slot,rawInt i,.ref a,rawInt n,rawInt ep],slots:=#[]}
noncomputable def jO(prog:Program)(w:World)(a:Addr)(ep:Nat)(es:Array (Int×Value)):List Value:=
 if gN prog w then(pickOrder (w.params.setOrder a ep) es).toList.map (·.2) else es.toList.map (·.2)
theorem nC(prog:Program)(w:World)(a:Addr)(ep:Nat)(es:Array (Int×Value)):(jO prog w a ep es).Perm (es.toList.map (·.2)):=by
 unfold jO
 by_cases q:gN prog w=true
 ·rw[if_pos q];exact(KN _ es).map _
 ·rw[if_neg q]
noncomputable def jV(prog:Program)(w:World)(l:List Nat)(i:Nat):Nat:=if gN prog w then 0 else zQ l i
section
variable{prog:Program}{w:World}{A:Around}{E:Value→Shared→Prop}{s:Shared}{a:Addr}{es:Array (Int×Value)}{ep:Nat}{l:List Nat}
theorem rZ(hes:mG es.toList l):es.size=l.length:=by rw[←eP,hes.len]
theorem vF(hes:mG es.toList l)(hl:l∈kG)(b:Bool):(gO l b).fits es.size=true:=by rw[rZ hes];exact tL l hl b
theorem wS{Q:Bool→Shared→Prop}(h:Q (gN prog w) s):wpAny (model prog w) A setsByText Q E s:=by
 unfold setsByText
 exact wpAny_bind (wpAny_askSetting (wpAny_pure h))
theorem Np(hes:mG es.toList l)(hl:l∈kG)(ho:s.heap.get? a=some (vZ es ep l (!gN prog w))){Q:Value→Shared→Prop}(hQ:Q (.ref s.heap.objs.size) {s with heap:=s.heap.push (sB a (jV prog w l 0) 0 l.length ep)}):wpAny (model prog w) A (pyIter (.ref a)) Q E s:=by
 have hT:s.TypeIs (.ref a) "set":=⟨_,ho,rfl⟩
 have hf:=vF hes hl (!gN prog w)
 refine wpAny_pyIter_slot hT PySem.F.slot_set_iter (wpAny_call_entry PySem.F.slot_set_iter hT AZ ?_ (BM _))
 unfold Builtin.«frozenset.__iter__» Builtin.Frozenset.slot0 slotArgs
 simp only[List.isEmpty_nil,Bool.not_true,Bool.false_eq_true,↓reduceIte,bind_assoc,List.length_nil,bne_self_eq_false]
 unfold Builtin.Frozenset.addrOf Builtin.Frozenset.sizeOf
 refine wpAny_bind (wpAny_pure ?_)
 try dsimp only
 refine wpAny_bind (wpAny_pure ?_)
 refine wpAny_bind (wpAny_bind (wpAny_setEntries_of ho rfl hf (wpAny_pure ?_)))
 unfold setDrawn
 refine wpAny_bind (wpAny_bind (wpAny_setState_of ho rfl hf (wpAny_bind (wS (wpAny_pure ?_)))))
 refine wpAny_ite_split (λq=>?_) λξ=>?_
 ·have q2:(!(gO l (!gN prog w)).plain&&decide (es.size>1))=true:=(bS.mp q).2
  simp[gO] at q2
 refine wpAny_bind (wpAny_pure ?_)
 refine wpAny_bind (wpAny_setEpoch_of ho rfl hf ?_)
 have e0:jV prog w l 0=0:=ite_self _
 rw[e0,←rZ hes] at hQ
 exact wpAny_bind (wpAny_newObj_type (wpAny_pure ⟨_,rfl,"set_iterator",_,⟨_,aW _ rfl,rfl⟩,iJ.lookup,hQ⟩))
theorem zS(hes:mG es.toList l)(hl:l∈kG)(ho:s.heap.get? a=some (vZ es ep l (!gN prog w))){i:Nat}(hi:i≤l.length){Q:Option (Value×Nat)→Shared→Prop}(hQ:Q ((jO prog w a ep es)[i]?.map λv=>(v,jV prog w l (i+1))) s):wpAny (model prog w) A (setNext a (jV prog w l i) i ep) Q E s:=by
 have hf:=vF hes hl (!gN prog w)
 have hsz:=rZ hes
 generalize hs:jV prog w l i=sl
 unfold setNext
 refine wpAny_bind (wpAny_setState_of ho rfl hf ?_)
 refine wpAny_bind (wS ?_)
 refine wpAny_ite_split (λhb=>?_) λhb=>?_
 ·have e1:∀j,jV prog w l j=0:=λj=>if_pos hb
  rw[e1,show jO prog w a ep es=_ from if_pos hb] at hQ
  rw[e1] at hs
  subst hs
  refine wpAny_ite_split (λq=>absurd q (by simp)) λξ=>?_
  unfold setWalk
  refine wpAny_bind (wpAny_bind (wpAny_setState_of ho rfl hf (wpAny_bind (wS ?_))))
  refine wpAny_ite_split (λξ=>?_) λn=>absurd hb n
  refine wpAny_bind (wpAny_askSetting (wpAny_pure (wpAny_pure ?_)))
  have e:(model prog w).w.params=w.params:=rfl
  rw[e]
  simpa [Option.map_map,Function.comp_def] using hQ
 ·have e1:∀j,jV prog w l j=zQ l j:=λj=>if_neg hb
  rw[e1,show jO prog w a ep es=_ from if_neg hb] at hQ
  rw[e1] at hs
  subst hs
  refine wpAny_ite_split (λq=>?_) λξ=>?_
  ·have q2:=(bS.mp q).1
   simp[gO] at q2
  refine wpAny_bind ?_
  refine wpAny_ite_split (λq=>absurd (bS.mp q).1 (by simpa [gO] using hb)) λξ=>?_
  have hbel:SetTable.below (gO l (!gN prog w)).place (zQ l i)=i:=EP l hl i (by have:=nM l hl;simp only[bJ,eH,or_false];exact(by decide:∀i<5,i=0∨i=1∨i=2∨i=3∨i=4) i (fK (aE hi this))) hi
  refine wpAny_pure ?_
  rw[hbel]
  refine wpAny_pure ?_
  rcases Nat.lt_or_ge i l.length with q | q
  ·obtain⟨t,ht⟩:=hes.at (aC q)
   rw[aK,ht,show zQ l (i+1)=l[i]+1 from by show l.getD i 0+1=_;simp[q]] at hQ
   rw[show es[i]?=some (((l[i]:Nat):Int),Value.int ((l[i]:Nat):Int) t) from by rw[←Array.getElem?_toList];exact ht,show(gO l (!gN prog w)).place[i]?=some l[i] from by simp[gO,q]]
   exact hQ
  ·rw[show(es.toList.map (·.2))[i]?=none from by rw[bN];simp;simp +arith [*]] at hQ
   rw[show es[i]?=none from by rw[Array.getElem?_eq_none];simp +arith [*]]
   exact hQ
theorem BG(hes:mG es.toList l)(hl:l∈kG){I:Addr}{i:Nat}(hI:s.heap.get? I=some (sB a (jV prog w l i) i l.length ep))(ho:s.heap.get? a=some (vZ es ep l (!gN prog w)))(hi:i<l.length){Q:Option Value→Shared→Prop}(hQ:∀v h',(jO prog w a ep es)[i]?=some v→h'.get? I=some (sB a (jV prog w l (i+1)) (i+1) l.length ep)→Heap.SameBut I s.heap h'→Q (some v) {s with heap:=h'}):wpAny (model prog w) A (pyNext (.ref I)) Q E s:=by
 have hT:s.TypeIs (.ref I) "set_iterator":=⟨_,hI,rfl⟩
 have hf:=vF hes hl (!gN prog w)
 have hsz:=rZ hes
 have hlen:(jO prog w a ep es).length=l.length:=by rw[(nC ..).length_eq,aA,hes.len]
 obtain⟨v,hv⟩:∃v,(jO prog w a ep es)[i]?=some v:=⟨_,aC (by simp +arith [*])⟩
 unfold pyNext
 refine wpAny_bind (wpAny_attempt (wpAny_callSpecial?_slot (name:=Str.ofString "__next__") hT iJ (wpAny_call_entry iJ hT oA ?_ (pA _))))
 unfold Builtin.«set_iterator.__next__»
 refine wpAny_bind (wpAny_pure ?_)
 refine wpAny_bind (wpAny_fieldsOf hI rfl ?_)
 refine wpAny_bind (wpAny_setEntries_of ho rfl hf ?_)
 refine wpAny_ite_split (λq=>absurd q (by rw[hsz];simp)) λξ=>?_
 show wpAny _ _ (setNext a (jV prog w l i) i ep >>= _) _ _ _
 refine wpAny_bind (zS hes hl ho (bW hi) ?_)
 rw[hv]
 show wpAny _ _ (setField (.ref I) 0 (rawInt (jV prog w l (i+1))) >>= λξ=>setField (.ref I) 1 (rawInt (i+1)) >>= λξ=>ret v) _ _ _
 refine wpAny_bind (wpAny_setField_rec hI (by simp) λh1 e1 s1=>?_)
 refine wpAny_bind (wpAny_setField_rec e1 (by simp) λh2 e2 s2=>?_)
 exact wpAny_pure ⟨_,rfl,wpAny_pure (hQ v h2 hv (by simpa [rawInt,sB] using e2) (s1.trans s2))⟩
theorem DC(hh:A.handled=none)(hes:mG es.toList l)(hl:l∈kG){I:Addr}(hI:s.heap.get? I=some (sB a (jV prog w l l.length) l.length l.length ep))(ho:s.heap.get? a=some (vZ es ep l (!gN prog w))){Q:Option Value→Shared→Prop}(hQ:∀h',Heap.ExtBut I s.heap h'→Q none {s with heap:=h'}):wpAny (model prog w) A (pyNext (.ref I)) Q E s:=by
 have hT:s.TypeIs (.ref I) "set_iterator":=⟨_,hI,rfl⟩
 have hf:=vF hes hl (!gN prog w)
 have hsz:=rZ hes
 have hlen:(jO prog w a ep es).length=l.length:=by rw[(nC ..).length_eq,aA,hes.len]
 have hv:(jO prog w a ep es)[l.length]?=none:=by rw[bN];simp[*]
 unfold pyNext
 refine wpAny_bind (wpAny_attempt (wpAny_callSpecial?_slot (name:=Str.ofString "__next__") hT iJ (wpAny_call_entry iJ hT oA ?_ (pA _))))
 unfold Builtin.«set_iterator.__next__»
 refine wpAny_bind (wpAny_pure ?_)
 refine wpAny_bind (wpAny_fieldsOf hI rfl ?_)
 refine wpAny_bind (wpAny_setEntries_of ho rfl hf ?_)
 refine wpAny_ite_split (λq=>absurd q (by rw[hsz];simp)) λξ=>?_
 show wpAny _ _ (setNext a (jV prog w l l.length) l.length ep >>= _) _ _ _
 refine wpAny_bind (zS hes hl ho (aO _) ?_)
 rw[hv]
 show wpAny _ _ (setField (.ref I) 2 .none >>= λξ=>newExc (.type "StopIteration") [] >>= raiseNew) _ _ _
 refine wpAny_bind (wpAny_setField_rec hI (by simp) λh1 e1 s1=>?_)
 refine wpAny_bind ?_
 simp only[newExc,newTuple]
 refine wpAny_bind (wpAny_newObj_type ?_ (by size_fits))
 refine wpAny_bind (m:=firstArgMember _ _) (wpAny_of_eq (a:=Value.none) rfl ?_)
 refine wpAny_newObj_type ?_ (by size_fits)
 simp only[raiseNew]
 refine wpAny_bind (wpAny_handled ?_)
 rw[show A.in1.handled=none from hh]
 refine wpAny_bind (wpAny_pure (wpAny_throw ?_))
 refine wpAny_bind (wpAny_isInstance (T:="StopIteration") (b:=true) ⟨_,aW _ rfl,rfl⟩ isSubtype_stop ?_)
 exact wpAny_pure (hQ _ ((s1.extBut.push _).push _))
theorem OF(hT:s.TypeIs (.ref a) "set"){Q:Bool→Shared→Prop}(h:Q false s):wpAny (model prog w) A (Builtin.List.listLengthHint (.ref a)) Q E s:=by
 unfold Builtin.List.listLengthHint
 refine wpAny_bind (wpAny_specialOf hT PySem.F.slot_set_len.lookup ?_)
 generalize hid:("set.__len__" : String)=id0
 wp_delta
 rw[show splitId id0=some ("set","__len__") from by subst hid;decide +kernel]
 subst hid
 refine wpAny_bind (wpAny_isInstance (T:="set") (b:=true) hT sub_set_self ?_)
 refine wpAny_ite_split (λhab=>absurd hab (by decide)) (λξ=>?_)
 refine wpAny_ite_split (λξ=>?_) (λhab=>absurd (by decide +kernel) hab)
 refine wpAny_bind (wpAny_typeOf hT ?_)
 exact wpAny_pure h
end
theorem Walks.smallSet{prog:Program}{w:World}{A:Around}(hh:A.handled=none){a I:Addr}(hne:a≠I){es:Array (Int×Value)}{ep:Nat}{l:List Nat}(hes:mG es.toList l)(hl:l∈kG) :
  Walks prog w A I [I,a] [I] l.length (λi v=>(jO prog w a ep es)[i]?=some v) (λi h=>h.get? I=some (sB a (jV prog w l i) i l.length ep)∧h.get? a=some (vZ es ep l (!gN prog w))) where
 sub:=λb hb=>by simp at hb;simp[hb]
 frame:=λξ ξ ξ st hk=>⟨hk I (by simp) _ st.1,hk a (by simp) _ st.2⟩
 item:=λi s Q E hi st hQ=>BG hes hl st.1 st.2 hi λv h' hv e hs=>hQ v h' s.toks hv ⟨e,hs.extBut _ _ hne st.2⟩ λb o hb x=>hs.extBut b o (λh=>hb (by simp[h])) x
 done:=λs Q E st hQ=>DC hh hes hl st.1 st.2 λh' he=>hQ h' s.toks λb o hb x=>he b o (λh=>hb (by simp[h])) x
 self:=λi s Q E st hQ=>by
  have hT:s.TypeIs (.ref I) "set_iterator":=⟨_,st.1,rfl⟩
  refine wpAny_pyIter_slot hT oP (wpAny_call_entry oP hT tW ?_ (vN _))
  exact wpAny_pure ⟨_,rfl,"set_iterator",_,hT,iJ.lookup,hQ⟩
theorem KdlSrc.smallSet(prog:Program)(w:World){a:Addr}{es:Array (Int×Value)}{ep:Nat}{l:List Nat}(hes:mG es.toList l)(hl:l∈kG) :
  KdlSrc prog w "set" a a l.length (λi v=>(jO prog w a ep es)[i]?=some v) (λh=>h.get? a=some (vZ es ep l (!gN prog w))) where
 type:=λξ hm=>⟨_,hm,rfl⟩
 there:=λξ hm=>⟨cY hm,cY hm⟩
 keep:=λξ ξ hm hk=>hk a (.inl rfl) _ hm
 notList:=by decide
 notTuple:=by decide
 hint:=λξ ξ ξ ξ hm hq=>OF ⟨_,hm,rfl⟩ hq
 iter:=λξ s hh hm=>⟨_,_,(λξ ξ hq=>Np hes hl hm hq),Walks.smallSet hh (bG (cY hm)) hes hl,⟨aW _ rfl,aR _ hm⟩⟩
section
variable{prog:Program}{w:World}{A:Around}{E:Value→Shared→Prop}{s:Shared}{T:String}{r d:Addr}{n:Nat}{P:Nat→Value→Prop}{OK:Heap→Prop}
theorem zP(K:KdlSrc prog w T r d n P OK)(hh:A.handled=none)(hok:OK s.heap)(hn:n<64){Q:Value→Shared→Prop}(hi:∀vs:List Value,vs.length=n→(∀j v,vs[j]?=some v→P j v)→∃ns,IntsAre vs ns)(h:∀(D:Addr) (h':Heap) (tk:Nat) (vs:List Value) (ns:List Int) (out:Array Value) (ns':List Int) (c:Nat),vs.length=n→(∀j v,vs[j]?=some v→P j v)→IntsAre vs ns→IntsAre out.toList ns'→ns'.Perm ns→ns'.Pairwise (·≤·) →
   s.heap.get? D=none→h'.get? D=some (listOf out c)→(∀b o,s.heap.get? b=some o→h'.get? b=some o)→Q (.ref D) {s with heap:=h',toks:=tk}) :
  wpAny (model prog w) A (call (.builtin "sorted") [.ref r]) Q E s:=by
 refine call_function_entry kind_sorted plain_sorted entry_sorted (args_sorted1 _) ?_
 unfold Builtin.«sorted»
 refine wpAny_bind (m:=checkCount "sorted" 1 1 _) (wpAny_pure ?_)
 have hn2:n≤sizeLine:=aE (bW hn) (by decide)
 refine wpAny_bind (kdu_collect (A:=A.in1) K hh hok hn2 λh1 tk acc hk hacc=>?_)
 have hl:acc.toList.length=n:=by rw[eP];exact hacc.1
 have hv:∀j v,acc.toList[j]?=some v→P j v:=λj v e=>hacc.2 j v (by rw[←Array.getElem?_toList];exact e)
 obtain⟨ns,hI⟩:=hi acc.toList hl hv
 refine wpAny_bind (wpAny_newList ?_ (by rw[hl];exact hn2))
 have ho:(h1.push {cls:=.type "list",data:=.seq acc.toList.toArray}).get? h1.objs.size=some (seqObj "list" acc.toList.toArray 0):=aW _ rfl
 refine wpAny_bind (wpAny_holding (wpAny_call_entry slot_list_sort ⟨_,ho,rfl⟩ entry_list_sort (list_sort_tree ho hI (by rw[hl];exact hn) λout ns' a1 a2 a3=>⟨_,rfl,?_⟩) (args_list_sort _)))
 obtain⟨c,hc⟩:=sortedHeap_at (out:=out) ho
 refine wpAny_pure ⟨_,rfl,h h1.objs.size _ tk acc.toList ns out ns' c hl hv hI a1 a2 a3 ?_ hc λb o e=>?_⟩
 ·cases q:s.heap.get? h1.objs.size with
  |none=>rfl
  |some o=>exact absurd (cY (hk _ _ q)) (dR _)
 ·have hlt:=cY (hk _ _ e)
  rw[sortedHeap_old (bG hlt) (by rw[dX];exact bD hlt)]
  exact aR _ (hk _ _ e)
end
theorem IntsAre.at{vs:List Value}{ns:List Int}(h:IntsAre vs ns):∀{i:Nat} {n:Int},ns[i]?=some n→∃t,vs[i]?=some (.int n t):=by
 induction h with
 |nil=>intro i n e;simp at e
 |cons m t h ih =>
  intro i n e
  cases i with
  |zero=>simp at e;subst e;exact⟨t,rfl⟩
  |succ i=>simpa using ih (by simpa using e)
theorem FP:∀(vs:List Value) (ns:List Int),vs.length=ns.length→(∀(j:Nat) (v:Value),vs[j]?=some v→∃(n:Int) (t:Tok),ns[j]?=some n∧v=Value.int n t)→IntsAre vs ns:=λvs=>by
 induction vs with
 |nil=>intro ns hl _;cases ns with
  |nil=>exact .nil
  |cons=>cases hl
 |cons v vs ih=>intro ns hl h;cases ns with
  |nil=>cases hl
  |cons n ns =>
   obtain⟨m,t,h1,rfl⟩:=h 0 v rfl
   cases h1
   exact .cons _ t (ih ns (eY.inj hl) λj=>h (j+1))
theorem xS{vs:List Value}{a b:List Int}(x:IntsAre vs a)(y:IntsAre vs b):a=b:=by
 induction x generalizing b with
 |nil=>cases y;rfl
 |cons n t x ih=>cases y with | cons _ _ y=>rw[ih y]
theorem Kq{vs us:List Value}(p:vs.Perm us):∀{ns:List Int},IntsAre us ns→∃ms,IntsAre vs ms∧ms.Perm ns:=by
 induction p with
 |nil=>intro ns h;cases h;exact⟨[],.nil,.refl _⟩
 |cons x p ih =>
  intro ns h
  cases h with
  |cons n t h =>
   obtain⟨ms,h1,h2⟩:=ih h
   exact⟨n::ms,.cons n t h1,h2.cons n⟩
 |swap x y r =>
  intro ns h
  cases h with
  |cons n t h =>
   cases h with
   |cons m u h=>exact⟨_,.cons m u (.cons n t h),List.Perm.swap ..⟩
 |trans p q ih1 ih2 =>
  intro ns h
  obtain⟨ms,h1,h2⟩:=ih2 h
  obtain⟨ks,h3,h4⟩:=ih1 h1
  exact⟨ks,h3,h4.trans h2⟩
theorem mG.ints{es:List (Int×Value)}{l:List Nat}(h:mG es l):IntsAre (es.map (·.2)) (l.map λ(v:Nat)=>(v:Int)):=by
 induction h with
 |nil=>exact .nil
 |cons n t h ih=>exact .cons _ t ih
theorem EF:∀l∈kG,(l.map λ(v:Nat)=>(v:Int)).Pairwise (·≤·):=by decide +kernel
section
variable{prog:Program}{w:World}{A:Around}{E:Value→Shared→Prop}{s:Shared}
theorem Cm{a:Addr}{l:List Nat}(hh:A.handled=none)(hS:jA s.heap a (!gN prog w) l){Q:Value→Shared→Prop}(h:∀(D:Addr) (h':Heap) (tk:Nat) (out:Array Value) (c:Nat),IntsAre out.toList (l.map λ(v:Nat)=>(v:Int))→s.heap.get? D=none→h'.get? D=some (listOf out c)→(∀b o,s.heap.get? b=some o→h'.get? b=some o)→Q (.ref D) {s with heap:=h',toks:=tk}) :
  wpAny (model prog w) A (call (.builtin "sorted") [.ref a]) Q E s:=by
 obtain⟨es,ep,ho,hes,hl⟩:=hS
 have h4:=nM l hl
 have key:∀vs:List Value,vs.length=l.length→(∀j v,vs[j]?=some v→(jO prog w a ep es)[j]?=some v)→∃ns,IntsAre vs ns∧ns.Perm (l.map λ(v:Nat)=>(v:Int)):=λvs h1 h2=>by
  have hlen:(jO prog w a ep es).length=l.length:=by rw[(nC ..).length_eq,aA,hes.len]
  have e:vs=jO prog w a ep es:=by
   refine eX λi=>?_
   rcases Nat.lt_or_ge i vs.length with q | q
   ·have:=h2 i _ (aC q)
    rw[this,aC q]
   ·rw[bN q,bN (by simp_all +arith)]
  subst e
  exact Kq (nC ..) hes.ints
 refine zP (KdlSrc.smallSet prog w hes hl) hh ho (by lia) (λvs h1 h2=>(key vs h1 h2).imp λξ x=>x.1) λD h' tk vs ns out ns' c h1 h2 h3 h4 h5 h6 h7 h8 h9=>?_
 obtain⟨ms,k1,k2⟩:=key vs h1 h2
 obtain rfl:=xS h3 k1
 have:ns'=l.map λ(v:Nat)=>(v:Int):=sX (h5.trans k2) h6 (EF l hl)
 subst this
 exact h D h' tk out c h4 h7 h8 h9
end
theorem VG{l:List Int}(h:∀i∈l,1≤i∧i≤4):(∀v∈l.map Int.toNat,v∈[1,2,3,4])∧(l.map Int.toNat).map (λ(v:Nat)=>(v:Int))=l:=by
 constructor
 ·intro v hv
  obtain⟨i,hi,rfl⟩:=bL.mp hv
  have:=h i hi
  exact(by decide:∀m<5,1≤m→m∈[1,2,3,4]) _ ((Int.toNat_lt (aS (by decide) this.1)).mpr (Int.lt_add_one_of_le this.2)) ((Int.le_toNat (aS (by decide) this.1)).mpr this.1)
 ·rw[cL]
  refine(fB λi hi=>?_).trans (List.map_id l)
  have:=h i hi
  show((i.toNat:Nat):Int)=id i
  exact dA (aS (by decide) this.1)
end
section
open PySem PySem.W PySem.Calls PyProof.Rows
set_option genInjectivity false
set_option maxRecDepth 100000
section
variable{X:Pk}{r:Nat}{ρ:List V}{w w1 w2 w3:W}
theorem nY{vs:List Value}{l:List Int}(hI:IntsAre vs l)(hl:∀i∈l,1≤i∧i≤4) :
  (∀(i:Nat) (v:Value),vs.toArray[i]?=some v→∃t:Tok,v=Value.int (((l.map Int.toNat).getD i 1:Nat):Int) t)∧(∀i,i<vs.toArray.size→(l.map Int.toNat).getD i 1∈[1,2,3,4]) ∧
   (aX vs.toArray.size).map (λi=>(l.map Int.toNat).getD i 1)=l.map Int.toNat:=by
 have hlen:vs.length=l.length:=IntsAre.length hI
 refine⟨λi v e=>?_,λi hi=>?_,?_⟩
 ·obtain⟨t,rfl⟩:=IntsAre.int_at hI i v (by simpa using e)
  refine⟨t,?_⟩
  have hi:i<l.length:=by
   rw[←hlen];simpa using (aB.mp (show vs[i]?=some _ by simpa using e)).1
  have:=hl _ (List.getElem_mem hi)
  simp only[aL,aK,aC hi,eE,Option.getD_some]
  rw[dA (aS (by decide) this.1)]
 ·have hi:i<(l.map Int.toNat).length:=by simpa [hlen] using hi
  rw[aL,aC hi]
  exact(VG hl).1 _ (List.getElem_mem hi)
 ·refine List.ext_getElem (by simp[hlen]) λi h1 h2=>?_
  simp only[List.getElem_map,List.getElem_range,aL]
  rw[aC h2];simp
inductive xY(w:W)(ds:List V):V→Prop | tup:xY w ds (.tup ds) | ref (n:Nat):w.get n=some (.list ds)→xY w ds (.ref n)
noncomputable def mS(w:W)(d:V):Option (List V):=V.casesOn (motive_1:=λξ=>Option (List V)) d none none (λξ=>none) (λξ=>none) (λξ=>none) some (λn=>iS w (.ref n)) λξ ξ=>none
theorem mC{d:V}{ds:List V}(h:mS w d=some ds):xY w ds d:=by
 cases d with
 |tup es=>cases (Option.some.inj h);exact .tup
 |ref n =>
  obtain⟨m,h1,h⟩:=aH.mp (show(Cr (.ref n)).bind (λn=>(w.get n).bind pJ)=some ds from h)
  obtain⟨c,h2,h3⟩:=aH.mp h
  cases (Option.some.inj h1)
  exact .ref n (by rw[h2,sG h3])
 |_=>cases h
theorem Oi(Kn:KnownN X){a:Ex}{x:V}{ds:List V}{l:List Int}(h1:Ev X r a ρ w x w1)(hx:xY w1 ds x)(hi:jD ds=some l)(hl:∀i∈l,1≤i∧i≤4){py:Expr}{sc:Scope}{ns:List Str}(ht:gC 8 (wR (.cons a .nil)) sc ns py=true){S:Addr→Prop}{env:Env}{φ:List Addr}{s:Shared}{A:Around}(F:Fr X r S φ env sc ns ρ w s A){Q:Value→Shared→Prop}(k:∀φ1 s1 B,fR X no φ w s φ1 w1 s1→Fr X r S φ1 env sc ns ρ w1 s1 A→jA s1.heap B (!gN P X.w) (iN (l.map Int.toNat))→Q (.ref B) s1):WP X A (eval py env) Q s:=
 mQ ht F (.blt (Kn.blt 8 (by decide)).1 (Kn.blt 8 (by decide)).2) (.typ "set") (.cons h1 .nil) λφ1 s1 vs T1 r1 F1=>r1.one.casesOn λv q1=>by
  have fin:∀{us:List Value} {h':Heap} {tk:Nat},IntsAre us l→(∀b o,s1.heap.get? b=some o→h'.get? b=some o)→jA h' s1.heap.objs.size (!gN P X.w) (iN ((aX us.toArray.size).map λi=>(l.map Int.toNat).getD i 1))→Q (.ref s1.heap.objs.size) {s1 with heap:=h',toks:=tk}:=by
   intro us h' tk hI hk hS
   rw[(nY hI hl).2.2] at hS
   have T:=(fR.grow (s':={s1 with heap:=h'}) F1.C hk rfl rfl).toks tk
   exact k φ1 {s1 with heap:=h',toks:=tk} _ (T1.trans T) (F1.step T) hS
  cases hx with
  |tup =>
   refine q1.tup_inv.casesOn λt n us ho rs ξ ξ=>?_
   have hI:=rs.ints _ _ hi
   exact vK (Src.tuple P X.w t us.toArray) F1.M.hand ⟨_,ho,rfl,n,rfl⟩ (λi=>(l.map Int.toNat).getD i 1) (nY hI hl).1 (nY hI hl).2.1 λh' tk hS hk=>fin hI hk hS
  |ref n hn =>
   refine q1.ref_inv.casesOn λl0 e1=>(gL F1.C hn e1).casesOn λk us ho rs hlim=>?_
   have hI:=rs.ints _ _ hi
   exact vK (Src.list P X.w l0 us.toArray) F1.M.hand ⟨_,ho,rfl,k,rfl⟩ (λi=>(l.map Int.toNat).getD i 1) (nY hI hl).1 (nY hI hl).2.1 λh' tk hS hk=>fin hI hk hS
theorem NA(Kn:KnownN X){j:Nat}{id:String}(hj:j<10)(hb:qS j=.builtin id){a:Ex}{x:V}{ds:List V}{l:List Int}(h1:Ev X r a ρ w x w1)(hx:xY w1 ds x)(hi:jD ds=some l)(hl:∀i∈l,1≤i∧i≤4){py:Expr}{sc:Scope}{ns:List Str}(ht:gC j (iC (gC 8 (iC (chE a)))) sc ns py=true){S:Addr→Prop}{env:Env}{φ:List Addr}{s:Shared}{A:Around}(F:Fr X r S φ env sc ns ρ w s A){Q:Value→Shared→Prop}(k:∀φ1 s1 B,fR X no φ w s φ1 w1 s1→Fr X r S φ1 env sc ns ρ w1 s1 A→jA s1.heap B (!gN P X.w) (iN (l.map Int.toNat))→WP X A (call (.builtin id) [.ref B]) Q s1):WP X A (eval py env) Q s:=(Bx ht).casesOn λx p pos args hk z=>(pL z).casesOn λe z =>
 wpAny_Call_ofName (El F hk (.blt (Kn.blt j hj).1 (hb▸(Kn.blt j hj).2)) (lL (es:=.cons (.call 8 (.cons a .nil)) .nil) (show(chE (.call 8 (.cons a .nil)) sc ns e&&true)=true by rw[Bool.and_true];exact z) (.blt id)
  (wpAny_items_cons (Oi Kn h1 hx hi hl z F λφ1 s1 B T1 F1 hS=>wpAny_items_nil ⟨F1.C.K,k φ1 s1 B T1 F1 hS⟩) ((iO z).star _ _))))
theorem Ev.lenSet(Kn:KnownN X){a:Ex}{x:V}{ds:List V}{l:List Int}(h1:Ev X r a ρ w x w1)(hx:xY w1 ds x)(hi:jD ds=some l)(hl:∀i∈l,1≤i∧i≤4):Ev X r (.lenSet a) ρ w (.int (iN (l.map Int.toNat)).length) w1:=λpy sc ns ht S env φ s A F =>
 NA Kn (j:=0) (by decide) rfl h1 hx hi hl (Iy ht) F λφ1 s1 B T1 F1 hS=>by
  obtain⟨es,ep,ho,hes,hsub⟩:=hS
  have h4:=nM _ hsub
  have hsz:=rZ hes
  refine call_len_set ho ⟨rfl,rfl,rfl⟩ rfl (vF hes hsub _) (by lia) ?_
  rw[hsz]
  exact⟨φ1,T1.toks _,.int _ _⟩
theorem Ev.sortedSet(Kn:KnownN X){a:Ex}{x:V}{ds:List V}{l:List Int}(h1:Ev X r a ρ w x w1)(hx:xY w1 ds x)(hi:jD ds=some l)(hl:∀i∈l,1≤i∧i≤4) :
  Ev X r (.srtSet a) ρ w (.ref w1.next) (w1.add (.list ((iN (l.map Int.toNat)).map λ(v:Nat)=>V.int (v:Int)))):=λpy sc ns ht S env φ s A F =>
 NA Kn (j:=5) (by decide) rfl h1 hx hi hl (Ix ht) F λφ1 s1 B T1 F1 hS=>by
  have h4:(iN (l.map Int.toNat)).length≤4:=let⟨_,_,_,_,q⟩:=hS;nM _ q
  refine Cm F1.M.hand hS λD h' tk out c hI hD hg hk=>?_
  have hr:fU X φ1 s1.heap out.toList ((iN (l.map Int.toNat)).map λ(v:Nat)=>V.int (v:Int)):=by
   have:=IntsAre.reps (X:=X) (φ:=φ1) (h:=s1.heap) hI
   rwa [cL] at this
  exact(hH.listG (n:=c) (s':={s1 with heap:=h',toks:=tk}) F1.C hk rfl rfl (by rw[hg]) hD hr (by rw[aA];exact aE h4 (by decide))).after T1
theorem Kvs.keys{X:Pk}{φ h}:∀(ds:List (Int×V)) (kvs:List (Int×Value)),Kvs X φ h kvs ds→kvs.map (·.1)=ds.map (·.1):=
 List.rec (λkvs r=>by rw[show kvs=[] from r];rfl) λp ds ih kvs r=>r.cons_inv.casesOn λq us a r=>a.casesOn λv ξ=>congrArg (p.1::·) (ih us r)
theorem Blt.sortedDict(Kn:Known0 X){n:Nat}{kvs:List (Int×V)}(hn:w.get n=some (.dict kvs))(h64:kvs.length<64):Blt X r 5 [.ref n] w (.ref w.next) (w.add (.list ((qM (kvs.map (·.1))).map .int))):=.one λφ s A v a C M=>a.ref_inv.casesOn λl e1=>(pX C hn e1).casesOn λkv hd rs hl=>by
 obtain⟨ep,hat⟩:=hd.dictAt
 have hlen:=rs.len
 have hkeys:=Kvs.keys _ _ rs
 have key:∀vs:List Value,vs.length=kv.length→(∀j v,vs[j]?=some v→∃k x,kv[j]?=some (k,x)∧(intKind P X.w).is k v=true)→IntsAre vs (kvs.map (·.1)):=λvs h1 h2=>by
  rw[←hkeys]
  refine FP vs _ (by rw[aA];exact h1) λj v e=>?_
  obtain⟨k,x,hk,hv⟩:=h2 j v e
  obtain⟨t,rfl⟩:=Value.isInt_shape hv
  exact⟨k,t,by rw[aK,hk];rfl,rfl⟩
 refine zP (kdl_dict (knd:=intKind P X.w) (kvs:=kv) (ep:=ep) (rO C e1 Kn.mods)) M.hand hat (by rw[hlen];exact h64) (λvs h1 h2=>⟨_,key vs h1 h2⟩) λD h' tk vs ns out ns' c h1 h2 h3 h4 h5 h6 h7 h8 h9=>?_
 obtain rfl:=xS h3 (key vs h1 h2)
 obtain rfl:=EM h5 h6
 exact hH.listG (n:=c) (s':={s with heap:=h',toks:=tk}) C h9 rfl rfl (by rw[h8]) h7 (IntsAre.reps h4) (by rw[aA,(lW _).length_eq,aA];exact aE (bW h64) (by decide))
end
end
section
open PySem PySem.W PySem.Calls PyProof.Rows
set_option maxRecDepth 100000
section
variable{prog:Program}{w:World}{A:Around}{I:Addr}{fp wr:List Addr}{G:Array GenState→Array GenState→Prop}{n:Nat}{P:Nat→Value→Prop}{St:Nat→Shared→Prop}
theorem WalksS.behind(W:WalksS prog w A I fp wr G n P St)(us:List Value) :
  WalksS prog w A I fp wr G (us.length+n) (λi v=>if i<us.length then us[i]?=some v else P (i-us.length) v) (λi s=>us.length≤i∧St (i-us.length) s) where
 sub:=W.sub
 grefl:=W.grefl
 gtrans:=W.gtrans
 frame:=λi s h' tk st ht hk=>⟨st.1,W.frame _ s h' tk st.2 ht hk⟩
 item:=λi s Q E hi st hQ=>W.item (i-us.length) s Q E (Nat.sub_lt_left_of_lt_add st.1 hi) st.2 λv s' hP st' hm=>hQ v s' (by rw[if_neg (dM.mpr st.1)];exact hP) ⟨dN st.1,by
  have e:i+1-us.length=i-us.length+1:=Nat.sub_add_comm st.1
  rw[e];exact st'⟩ hm
 done:=λs Q E st hQ=>W.done s Q E (by have:=st.2;rwa [Nat.add_sub_cancel_left] at this) hQ
 self:=λi s Q E st hQ=>W.self _ s Q E st.2 hQ
end
section
variable{prog:Program}{w:World}{A:Around}{E:Value→Shared→Prop}{s:Shared}
theorem DV{R:Result→Shared→Prop}{r:Addr}{a b:Int}{t u v:Tok}{n:Nat}(hh:A.handled=none)(hr:IsRange s.heap r a b 1 t u v)(hsmall:Builtin.Range.small a b 1=true)(hn:Builtin.Range.rangeSize a b 1=n)(hlen:n≤2^24)(S:Addr)(res:Value)(c₀:Nat)(us:List Value)(hS:s.heap.get? S=some (listOf us.toArray c₀))(hz:us.length+n≤sizeLine)(hz2:us.length+1≤sizeLine)(hR:∀h' tk acc' c',(∀b o,b≠S→s.heap.get? b=some o→h'.get? b=some o)→h'.get? S=some (listOf acc' c') →
   ItemsOf (λi x=>if i<us.length then us[i]?=some x else ∃t:Tok,x=.int (a+((i-us.length:Nat):Int)*1) t) acc' (us.length+n)→R (.ok (.ret res)) {s with heap:=h',toks:=tk}) :
  wpAny (model prog w) A.in1 (Builtin.List.listExtendWith (.ref S) (.ref r) res)
   (λfin s'=>match fin with | .done f=>R (.ok f) s' | .again c'=>c'.quiet=true∧codeAny (model prog w) A c' R s') (λe s'=>R (.error e) s') s:=by
 have hSr:S≠r:=λe=>by rw[e,hr] at hS;simp at hS
 have hSI:S≠s.heap.objs.size:=bG (cY hS)
 have hSf:S∉[s.heap.objs.size]:=λhm=>hSI (aG.mp hm)
 have W:=WalksS.behind (Walks.range (prog:=prog) (w:=w) (A:=A.in1) hh s.heap.objs.size a 1 n).toS us
 have key:∀(h:Heap) (c₁ tk:Nat),IsRangeIter h s.heap.objs.size (a+((0:Nat):Int)*1) ((n:Int)-((0:Nat):Int)) 1→(∀b o,b≠S→s.heap.get? b=some o→h.get? b=some o) →
   h.get? S=some (listOf us.toArray c₁)→codeAny (model prog w) A (.builtin "list.extend.loop" ⟨[.ref S,.ref s.heap.objs.size,res],[]⟩) R {s with heap:=h,toks:=tk}:=by
  intro h c₁ tk hit hk hS₁
  refine codeAny_extend_loopS W hz S hSf res n us.length _ us.toArray c₁ (by(simp at *;done)) (by(simp at *;done)) ⟨aO _,by rw[eM];exact hit⟩ hS₁ ⟨by simp,λj v e=>?_⟩ λs' acc' c' hm hS' hacc=>?_
  ·have hj:j<us.length:=by simpa using (Array.getElem?_eq_some_iff.mp e).1
   show if j<us.length then us[j]?=some v else _
   rw[if_pos hj];simpa using e
  ·rw[Moved.eq_with hm]
   refine hR s'.heap s'.toks acc' c' (λb o hb e=>hm.heap b o (λhmem=>?_) (hk b o hb e)) hS' hacc
   rcases bJ.mp hmem with e' | hmem
   ·exact hb e'
   ·exact absurd (cY e) (by rw[aG.mp hmem];exact dR _)
 unfold Builtin.List.listExtendWith
 refine wpAny_bind (wpAny_typeOf (T:="range") ⟨_,hr,rfl⟩ ?_)
 have h1:Builtin.List.listSameRef (.ref S) (.ref r)=false:=by simp[Builtin.List.listSameRef,hSr]
 have h2:(Value.type "range"==Value.type "list")=false:=by decide
 have h3:(Value.type "range"==Value.type "tuple")=false:=by decide
 simp only[h1,h2,h3,Bool.or_false,Bool.false_eq_true,if_false]
 refine wpAny_bind (wpAny_pyIter_range hr hsmall ?_)
 refine wpAny_bind (wpAny_holding (wpAny_hint_range (n:=n) (aR _ hr) hn hlen ?_))
 have hit₁:IsRangeIter (s.heap.push {cls:=.type "range_iterator",data:=.fields #[rawInt a,rawInt (Builtin.Range.rangeSize a b 1),rawInt 1]}) s.heap.objs.size (a+((0:Nat):Int)*1) ((n:Int)-((0:Nat):Int)) 1:=by
  show IsRangeIter _ _ _ _ _;rw[hn];simpa using aW _ rfl
 have hS₁:=aR {cls:=.type "range_iterator",data:=.fields #[rawInt a,rawInt (Builtin.Range.rangeSize a b 1),rawInt 1]} hS
 refine wpAny_ite_split (λξ=>?_) (λξ=>wpAny_pure ⟨plainId_quiet PySem.F.plain_extend_loop _,key _ c₀ _ hit₁ (λb o ξ e=>aR _ e) hS₁⟩)
 refine wpAny_bind (wpAny_rule ?_)
 refine wpAny_bind ?_
 show wpAny _ _ (updateSeq S (·.push .none) >>= λξ=>updateSeq S (·.pop)) _ _ _
 refine wpAny_bind (wpAny_updateSeq (hz:=by simp;exact aE (bW hz2) (bH rfl)) hS₁ rfl ?_)
 have hS₂:=dL (Obj.mapSeq (·.push Value.none)) hS₁ rfl
 refine wpAny_updateSeq (hz:=by simp[Obj.mapSeq];assumption) hS₂ rfl ?_
 have hS₃:=dL (Obj.mapSeq (·.pop)) hS₂ rfl
 refine wpAny_pure ⟨plainId_quiet PySem.F.plain_extend_loop _,key _ _ _ ?_ (λb o hb e=>?_) (by rw[hS₃];simp[Obj.mapSeq];rfl)⟩
 ·exact(fE _ _ hSI).trans ((fE _ _ hSI).trans hit₁)
 ·exact(fE _ _ (Ne.symm hb)).trans ((fE _ _ (Ne.symm hb)).trans (aR _ e))
theorem vL{r:Addr}{a b:Int}{t u v:Tok}{n:Nat}{Q:Value→Shared→Prop}(hh:A.handled=none)(hr:IsRange s.heap r a b 1 t u v)(hsmall:Builtin.Range.small a b 1=true)(hn:Builtin.Range.rangeSize a b 1=n)(hlen:n≤2^24)(S:Addr)(c₀:Nat)(us:List Value)(hS:s.heap.get? S=some (listOf us.toArray c₀))(hz:us.length+n≤sizeLine)(hz2:us.length+1≤sizeLine)(hQ:∀h' tk acc' c',(∀b o,b≠S→s.heap.get? b=some o→h'.get? b=some o)→h'.get? S=some (listOf acc' c') →
   ItemsOf (λi x=>if i<us.length then us[i]?=some x else ∃t:Tok,x=.int (a+((i-us.length:Nat):Int)*1) t) acc' (us.length+n)→Q .none {s with heap:=h',toks:=tk}) :
  wpAny (model prog w) A (call (.builtin "list.extend") [.ref S,.ref r]) Q E s:=by
 have hT:s.TypeIs (.ref S) "list":=⟨_,hS,rfl⟩
 refine wpAny_call (codeAny_call_builtin PySem.F.slot_list_extend.plain PySem.F.entry_list_extend (PySem.F.slot_list_extend.check _ _ _ _ _ _ _ _ hT (PySem.F.args_list_extend_2 _ _) ?_))
 show wpAny _ _ (Builtin.List.listExtendWith (.ref S) (.ref r) .none) _ _ _
 exact DV (R:=λres s'=>match res with | .ok (.ret v)=>Q v s' | .ok _=>False | .error e=>E e s') hh hr hsmall hn hlen S .none c₀ us hS hz hz2 λh' tk acc' c' h1 h2 h3=>hQ h' tk acc' c' h1 h2 h3
end
end
section
open PySem PySem.W PySem.Calls PyProof.Rows
set_option genInjectivity false
set_option maxRecDepth 100000
section
variable{X:Pk}{r:Nat}{ρ:List V}{w w1 w2 w3:W}
theorem Jy{φ:List Addr}{h:Heap}{i:Int}(m:Nat):∀(p:Nat) (l:List Value),l.length=m→(∀(q:Nat) (x:Value),l[q]?=some x→∃t:Tok,x=Value.int (i+((p+q:Nat):Int)) t)→fU X φ h l ((List.range' p m).map λ(k:Nat)=>V.int (i+(k:Int))):=by
 induction m with
 |zero=>intro p l h1 _;rw[dD.mp h1];exact .nil
 |succ m ih =>
  intro p l h1 h2
  cases l with
  |nil=>cases h1
  |cons x l =>
   rw[List.range'_succ,aY]
   obtain⟨t,e⟩:=h2 0 x rfl
   rw[e]
   refine .cons (.int _ _) (ih (p+1) l (eY.inj h1) λq y hy=>?_)
   obtain⟨t',e'⟩:=h2 (q+1) y hy
   exact⟨t',by rw[e',Nat.add_right_comm p 1 q];rfl⟩
theorem Ev.extendRange(Kn:KnownN X){o a b:Ex}{n:Nat}{l ds:List V}{i j:Int}(h1:Ev X r o ρ w (.ref n) w1)(hn1:w1.get n=some (.list l))(h2:Ev X r a ρ w1 (.int i) w2)(h3:Ev X r b ρ w2 (.int j) w3)(hn:w3.get n=some (.list ds))(hs:jC i j=true)(hl:(ds++sR i j).length<lim):Ev X r (.extR o a b) ρ w .none (w3.set n (.list (ds++sR i j))):=λpy sc ns ht S env φ s A F=>by
 have ht':nX (chE o) 1 (iC (gC 1 (kI (chE a) (chE b)))) sc ns py=true:=TN ht
 refine(wL ht').casesOn λv at_ p pos args hli hlen hv hk z=>(pL z).casesOn (motive:=λargs ξ=>args.length<20→WP X A (eval (.Call (.Attribute v at_ p) args [] pos) env) (hH X φ w s .none (w3.set n (.list (ds++sR i j)))) s) (λe z hlen=>?_) hlen
 obtain⟨rfl,_⟩:=sE hk
 have z':Trs sc ns [e] (.cons (.call 1 (.cons a (.cons b .nil))) .nil):=show(chE (.call 1 (.cons a (.cons b .nil))) sc ns e&&true)=true by rw[Bool.and_true];exact z
 refine wI hv.2 hv.1 z' hli hlen (h1.use hv.2 F λφ1 s1 u T1 r1 F1 pl=>r1.ref_inv.casesOn λad e1=>(gL F1.C hn1 e1).casesOn λk us ho rs ξ=>?_)
 refine getMethod_list_of (items:=us.toArray) PySem.F.slot_list_extend (FE 1 (.inr (.inl rfl))).2 ⟨_,ho,rfl,k,rfl⟩ ⟨_,ho,rfl⟩ (lL z' (.blt _) (wpAny_items_cons ?_ ((iO z).star _ _)))
 refine xU Kn h2 h3 z F1 λφ2 s2 rr t1 t2 t3 T2 F2 hr=>wpAny_items_nil ⟨F2.C.K,?_⟩
 have e3:φ2[n]?=some ad:=sC T2.pre e1
 refine(gL F2.C hn e3).casesOn λc0 us2 ho2 rs2 ξ=>?_
 obtain⟨m1,m2,m4⟩:=EO hs
 have hlen3:=rs2.len
 have h100:lim=100000:=rfl
 have hup:(sR i j).length=(j-i).toNat:=by simp[sR]
 have hl':=hl
 rw[aD,hup] at hl
 have hll:=rD
 refine vL F2.M.hand hr m1 m2 (by lia) ad c0 us2 ho2 (by rw[hlen3];exact aE (bW hl) hll) (by rw[hlen3];exact aE (aQ (dG _ _) hl) hll) λh' tk acc' c' g1 g2 g3=>?_
 have hacc:acc'.toList.length=us2.length+(j-i).toNat:=by rw[eP];exact g3.1
 have hval:∀{p x},acc'.toList[p]?=some x→if p<us2.length then us2[p]?=some x else ∃t:Tok,x=.int (i+((p-us2.length:Nat):Int)*1) t:=λ{p x} e=>g3.2 p x (by rw[←Array.getElem?_toList];exact e)
 have hsplit:acc'.toList=us2++acc'.toList.drop us2.length:=by
  refine eX λp=>?_
  rcases Nat.lt_or_ge p us2.length with q | q
  ·rw[aJ q]
   have:=hval (aC (hacc.symm▸aM q (dG _ _):p<acc'.toList.length))
   rw[if_pos q] at this
   rw[this];exact aC (hacc.symm▸aM q (dG _ _))
  ·rw[bP q,List.getElem?_drop];congr 1;simp_all +arith
 have hrep:∀{h:Heap},fU X φ2 h (acc'.toList.drop us2.length) (sR i j):=λ{h}=>by
  have:=Jy (X:=X) (φ:=φ2) (h:=h) (i:=i) (j-i).toNat 0 (acc'.toList.drop us2.length) (by rw[List.length_drop,hacc];(simp at *;done)) λq x e=>by
   rw[List.getElem?_drop] at e
   have:=hval e
   rw[if_neg (by(simp at *;done))] at this
   obtain⟨t,rfl⟩:=this
   exact⟨t,by congr 1;(simp at *;done)⟩
  unfold sR
  rw[List.range_eq_range']
  exact this
 exact⟨φ2,(T1.trans T2).trans (fR.updG (tk:=tk) (c:=.list (ds++sR i j)) F2.C hn e3 g1 λK=>xF.mk c' acc'.toList (by simpa using g2) (by rw[hsplit];exact(rs2.keeps K).app hrep) (bW hl')),.none⟩
theorem pB.zip(Kn:KnownN X){a b c:Ex}{as bs cs:List V}(h1:Ev X r a ρ w (.tup as) w1)(h2:Ev X r b ρ w1 (.tup bs) w2)(h3:Ev X r c ρ w2 (.tup cs) w3)(hb:as.length=bs.length)(hc:as.length=cs.length) :
  pB X r (.zip a b c) ρ w (.zip as bs cs 0) w3:=λpy sc ns ht S env φ s A F =>
 mQ (es:=.cons a (.cons b (.cons c .nil))) (Xg ht) F (.blt (Kn.blt 9 (by decide)).1 (Kn.blt 9 (by decide)).2) (.typ "zip") (.cons h1 (.cons h2 (.cons h3 .nil))) λφ1 s1 vs T1 r1 F1=>r1.cons_inv.casesOn λv1 us p1 r1=>r1.two.casesOn λv2 v3 p2 p3 =>
 p1.tup_inv.casesOn λt1 n1 u1 g1 q1 b1 ξ=>p2.tup_inv.casesOn λt2 n2 u2 g2 q2 b2 ξ=>p3.tup_inv.casesOn λt3 n3 u3 g3 q3 b3 ξ=>by
 refine LH (xs:=u1.toArray) (ys:=u2.toArray) (zs:=u3.toArray) ⟨_,g1,rfl,n1,rfl⟩ ⟨_,g2,rfl,n2,rfl⟩ ⟨_,g3,rfl,n3,rfl⟩ λh' z1 z2 z3 z4 z5 z6 hk=>?_
 refine wpAny_pyIter_zip z1 ?_
 generalize hN:s1.heap.objs.size=N at *
 have nw:∀k,s1.heap.get? (N+k)=none:=λk=>tU (by rw[hN];exact dG _ _)
 have nw':∀a,a∈[N+5,N+3,N+4,N,N+1,N+2]→s1.heap.get? a=none:=λa ha=>by
  simp only[bJ,eH,or_false] at ha
  rcases ha with rfl | rfl | rfl | rfl | rfl | rfl<;>first | exact nw _ | exact nw 0
 have hBn:∀a,(a=N+3∨a=N+4)→s1.heap.get? a=none:=λa ha=>by rcases ha with rfl | rfl<;>exact nw _
 have arm:∀{i t n u d},IsTupIter h' i t 0→s1.heap.get? t=some (lV u n)→∀{vs:List Value},u=vs.toArray→¬X.ban t→fU X φ1 s1.heap vs d→Df (X.with λa=>a=N+3∨a=N+4) φ1 h' i d 0:=λx g ξ e nb q=>by
  subst e
  exact⟨_,_,_,x,hk _ _ g,λh=>Or.elim h nb λh=>(by rw[hBn _ h] at g;cases g),(fU.keepsG (X:=X) (X':=X.with λa=>a=N+3∨a=N+4) (yP hBn) _ _ q).kept (cA _) hk⟩
 refine⟨φ1,s1,(λa=>a=N+3∨a=N+4),N+5,[N+5,N+3,N+4,N,N+1,N+2],rfl,T1,⟨hk,rfl,rfl,nw',λa ha=>by rcases ha with rfl | rfl<;>simp,?_,λa ha=>?_⟩⟩
 ·exact Au.mk (N+3) (N+4) N (N+1) (N+2) .none .none .none z1 z2 z3 (arm z4 g1 rfl b1 q1) (arm z5 g2 rfl b2 q2) (arm z6 g3 rfl b3 q3) (.inr (.inl rfl)) (.inr (.inr rfl)) (by simp[cZ]) ⟨hb,hc⟩
 ·have hn:=nw' a ha
  have o1:=F1.C.notMem hn
  have o2:=F1.C.notBase hn
  have fo:∀{o:Obj} {vs},h'.get? a=some o→o.data=.fields vs→Fv (X.with λa=>a=N+3∨a=N+4) φ1 h' a:=λe d=>(oU d).ownJ o1 o2 e λv e'=>by rw[d] at e';cases e'
  have io:∀{i t},a=i→IsTupIter h' i t 0→Fv (X.with λa=>a=N+3∨a=N+4) φ1 h' a:=λq x=>by obtain⟨o,e,_,d⟩:=x;exact fo (by rw[q];exact e) d
  simp only[bJ,eH,or_false] at ha
  rcases ha with q | q | q | q | q | q
  ·exact fo (by rw[q];exact z1) rfl
  ·exact⟨_,o1,o2,by rw[q];exact z2,.inl (.inr (.inl q)),λξ ξ e=>(by cases e),λξ e=>(by cases e)⟩
  ·exact⟨_,o1,o2,by rw[q];exact z3,.inl (.inr (.inr q)),λξ ξ e=>(by cases e),λξ e=>(by cases e)⟩
  ·exact io q z4
  ·exact io q z5
  ·exact io q z6
end
theorem mJ{l:List (Str×Value)}(hn:(l.map (·.1)).Nodup){x:Str}{v:Value}(h:(x,v)∈l):l.lookup x=some v:=by
 induction l with
 |nil=>cases h
 |cons p r ih =>
  obtain⟨y,u⟩:=p
  rw[dC]
  rcases bJ.mp h with e | e
  ·cases e;simp
  ·have hne:x≠y:=by
    rintro rfl
    simp only[aY,cZ] at hn
    exact hn.1 (List.mem_map_of_mem (f:=(·.1)) e)
   have:(x==y)=false:=by simp[hne]
   rw[this]
   exact ih (by simp only[aY,cZ] at hn;exact hn.2) e
section
variable{X:Pk}{φ:List Addr}{w:W}{s:Shared}{f c cda:Addr}{F:Fn}{fd:FuncData}{body:List Stmt}{ar:Arg}{file:Str}
theorem fW.enterInit(ok:oJ X f F fd body)(io:Hf X F fd c cda ar file)(C:Cst X φ w s){vs:List Value}{ds:List V}(R:fU X φ s.heap vs ds)(hl:ds.length=F.np){h1:Heap}(hns:h1.Ns s.heap.objs.size (λx=>(((gF fd.scope).take F.np).zip vs).reverse.lookup x))(hk:∀b o,s.heap.get? b=some o→h1.get? b=some o) :
  fW X (λa=>a=s.heap.objs.size) φ (callEnv fd s.heap.objs.size f) fd.scope (gF fd.scope) (ds++aV (F.nv-F.np) .unset) h1:=by
 have hvl:vs.length=F.np:=R.len.trans hl
 have hkind:∀x,(callEnv fd s.heap.objs.size f).kindOf x=fd.scope.names.lookup x:=λx=>rfl
 have hnd:=ok.keysNd hvl
 have R1:fU X φ h1 vs ds:=R.kept (cA _) hk
 have hfresh:=iA s.heap
 have hKc:X.K.In h1:=C.K.keeps hk
 refine⟨ok.kind,ok.glob,ok.blt,λx h=>by rw[hkind,h],λx h=>by rw[hkind,h],λx h=>.inr (by rw[hkind,h]),λx h=>by rw[hkind,h],ok.size hl,⟨_,hns,λx i d ξ h1' h2 h3=>?_⟩,λx hx=>?_,λx y c' h1' h2=>?_,rfl,λa ha=>?_⟩
 ·rcases ok.slot R1 hl h2 h3 with rfl | ⟨v,hm,rv⟩
  ·exact .unset _
  ·rw[mJ (by rw[List.map_reverse];exact(List.reverse_perm _).nodup_iff.mpr hnd) (List.mem_reverse.mpr hm)];exact .mk _ _ rv
 ·rcases hx with hx | hx
  ·exact(io.cell _ (mem_of_lookup hx) rfl).elim
  ·have e:x=Str.ofString "__class__":=io.free _ (mem_of_lookup hx) rfl
   subst e
   obtain⟨oc,od,sl,hc⟩:=io.cls
   refine⟨c,some (.ref (X.cls 2)),by show fd.closure.lookup _=_;rw[io.clo];simp,⟨_,hKc _ _ hc,rfl⟩,λh=>(by rw[hx] at h;cases h),λi d h1' h2=>?_⟩
   have hm:Str.ofString "__class__"∈gF fd.scope:=aF (iY h1')
   rcases oX hm ok.names with q | q<;>(rw[hx] at q;cases q)
 ·have e1:∀z,(callEnv fd s.heap.objs.size f).cells.lookup z=some c'→z=Str.ofString "__class__":=λz hz=>by
   have hz:fd.closure.lookup z=some c':=hz
   rw[io.clo,dC] at hz
   cases q:z==Str.ofString "__class__" with
   |true=>exact eq_of_beq q
   |false=>rw[q] at hz;exact nomatch hz
  rw[e1 x h1',e1 y h2]
 ·rw[ha]
  obtain⟨o,es,ep,e,hd,_⟩:=hns
  exact⟨o,C.notMem hfresh,C.notBase hfresh,e,nO hd⟩
theorem LG{K:Frag}{C:Addr}{cd:ClassData}(h:clsIn K C=some cd):∃o,K.lookup C=some o∧o.data=.cls cd:=by
 unfold clsIn at h
 cases q:K.lookup C with
 |none=>rw[q] at h;exact nomatch h
 |some o =>
  rw[q] at h
  refine⟨o,rfl,?_⟩
  obtain⟨c,d,dat,sl⟩:=o
  cases dat<;>first | exact congrArg _ (Option.some.inj h) | exact nomatch h
theorem FL{sc:Scope}{o:Expr}(h:DK sc o=true):∃p0 p1,o=.Call (.Name (Str.ofString "super") p0) [] [] p1:=(oZ h).casesOn λg args kw pos z=>by
 obtain⟨z1,z⟩:=and2 z
 obtain⟨z2,z⟩:=and2 z
 rw[cF.mp z1,cF.mp z2]
 exact(iL z).casesOn λx p z=>⟨p,pos,by rw[eq_of_beq (and2 z).1]⟩
theorem MF{sc:Scope}{ns:List Str}{env:Env}{pys:List Expr}{es:Exs}(h:Trs sc ns pys es)(hlen:pys.length<20)(pos:Pos):methodCallForm (pys.length+([]:List Keyword).length) (backTo pos (starEach pys env)) (backToKw pos (keywordEach [] env))=true:=by
 unfold methodCallForm
 rw[(Trs.plain (pos:=pos) (env:=env) es pys h).all]
 have:decide (pys.length+0+0<30)=true:=decide_eq_true (cO hlen (by decide))
 have e:backToKw pos (keywordEach [] env)=[]:=rfl
 rw[e];simpa using this
theorem oJ.trSup(ok:oJ X f F fd body){es:Exs}(h:F.sup=some es):iM (λsc ns py=>JV py λx ξ=>VO 5 (wR es) sc ns x) (chB F.body) fd.scope (gF fd.scope) body=true:=by
 have:=ok.tr
 unfold chF at this
 rw[h] at this
 exact this
theorem oL.init{r:Nat}{w1 w2 w3:W}(Kn:KnownN X)(ok:oJ X f F fd body)(io:Hf X F fd c cda ar file){n:Nat}{ds us:List V}{es:Exs}{ρ':List V}{o:Out}(hb:F.sup=some es)(hl:(V.obj 2 n::ds).length=F.np)(h1:Evs X r es (V.obj 2 n::ds++aV (F.nv-F.np) .unset) w us w1)(h2:∀pf,BQ X pf zM→oL X r (.ref pf) (.obj 2 n::us) w1 .none w2)(h3:Sts X r F.body (V.obj 2 n::ds++aV (F.nv-F.np) .unset) w2 ρ' o w3):oL X (r+1) (.ref f) (V.obj 2 n::ds) w (KO o) w3:=λφ s A vs R C M=>by
 obtain⟨Rr,hR⟩:∃Rr,Rr=Zh X φ w s (KO o) w3:=⟨_,rfl⟩
 rw[←hR]
 obtain⟨ob,ho,hd⟩:=ok.at_
 obtain⟨pf,g1,g2,g3,g4⟩:=Kn.sup.base
 obtain⟨cdD,hcd⟩:=Kn.sup.cls
 obtain⟨v0,vs',rx,R'⟩:=R.cons_inv
 obtain⟨x,dx,hx,hdx⟩:=rx.obj_inv
 have R:fU X φ s.heap (.ref x::vs') (.obj 2 n::ds):=.cons (.obj hx hdx) R'
 have hvl:(Value.ref x::vs').length=F.np:=R.len.trans hl
 obtain⟨st0,rest,hst,hrest⟩:=gX (ok.trSup hb)
 obtain⟨e0,ep,hz⟩:=CM hst
 obtain⟨so,a0,apos,pos,pys,hline,hlen,hsup,hm,hargs⟩:=FH hz
 obtain⟨oc,od,sl,hc⟩:=io.cls
 obtain⟨ccl,cdd,cvs,ccs,tf,hcda,hfl⟩:=io.codeAt
 have hof:∃of,X.K.lookup pf=some of∧of.cls=.type "function":=by
  have ht':(X.K.lookup pf).map (·.cls)=some (.type "function"):=g2
  cases z:X.K.lookup pf with
  |none=>rw[z] at ht';cases ht'
  |some of=>rw[z] at ht';exact⟨of,rfl,Option.some.inj ht'⟩
 obtain⟨of,hol,hof2⟩:=hof
 refine ks_codeAny_call_defAt (fd:=fd) (binds:=((gF fd.scope).take F.np).zip (.ref x::vs')) M.limit (C.K _ _ ho) hd C.noLimit (codeRec_of C.K ok.code) ok.bd (BindsTo.of_eq (ok.bind _ hvl)) io.cell (λx hx=>?_) (λh₀ hns hk=>?_) ok.co ok.gen ok.kind
 ·exact(oX ((List.take_sublist _ _).mem (List.of_mem_zip hx).1) ok.names).resolve_right λq=>io.cell _ (mem_of_lookup q) rfl
 have R1:=fW.enterInit ok io C R hl hns hk
 have T1:=(fR.grow (s':={s with heap:=h₀}) C hk rfl rfl).toks (s.toks+(((gF fd.scope).take F.np).zip (.ref x::vs')).length)
 refine ks_wpAt_execs_cons (ks_wpAt_Expr_any ?_ (by rw[interactive];rw[show(callEnv fd s.heap.objs.size f).scope.kind=.function from ok.kind];rfl) ((iO hz).swaps (by
  exact(FH hz).casesOn λξ ξ ξ ξ ξ ξ ξ ξ ξ ξ=>rfl) none _ _))
 obtain⟨hm,_⟩:=sE hm
 subst hm
 obtain⟨p0,p1,rfl⟩:=FL hsup
 have hform:=MF (env:=callEnv fd s.heap.objs.size f) hargs hlen
 rw[arm_eval_Call]
 have hx1:h₀.get? x=some (instObj (X.cls 2) dx):=hk _ _ hx
 have hK1:X.K.In h₀:=C.K.keeps hk
 have h0:(gF fd.scope)[0]?=some ar.arg:=by rw[←List.head?_eq_getElem?];exact io.arg2
 have hself:(((gF fd.scope).take F.np).zip (.ref x::vs')).reverse.lookup ar.arg=some (.ref x):=
  mJ (by rw[List.map_reverse,(List.reverse_perm _).nodup_iff];exact ok.keysNd hvl) (List.mem_reverse.mpr (CV (i:=0) (by rw[List.getElem?_take_of_lt io.np];exact h0) rfl))
 have hka:fd.scope.names.lookup ar.arg=some .local:=(oX (aF h0) ok.names).resolve_right λq=>io.cell _ (mem_of_lookup q) rfl
 have hcd':∃oD,h₀.get? (X.cls 2)=some oD∧oD.data=.cls cdD:=by
  obtain⟨o,h1,h2⟩:=LG hcd
  exact⟨o,hK1 _ _ h1,h2⟩
 obtain⟨oD,hD1,hD2⟩:=hcd'
 refine PySem.wpAt_bind (PySem.wpAt_mono (ks_wpAt_super_base (env:=callEnv fd s.heap.objs.size f) (f:=f) (cc:=cda) io.sup io.kcls (by decide) rfl (hK1 _ _ ho) hd io.arg io.code (hK1 _ _ hcda) rfl hfl io.same (by decide +kernel) ?_) (λov s1 h1=>PySem.wpAt_of_wpAny h1) λξ ξ x=>x)
 have hg1:h₀.Ns mainGlobals X.mg:=X.g.keeps λb o e=>hk _ _ (C.base b o e)
 have hb1:h₀.Ns builtinsNs X.mb:=X.b.keeps λb o e=>hk _ _ (C.base b o e)
 refine ks_loadName_global ok.kind io.sup (PySem.Calls.loadGlobal_builtin (mg:=X.mg) (mb:=X.mb) (by rw[show(callEnv fd s.heap.objs.size f).globals=mainGlobals from ok.glob];exact hg1) Kn.sup.glob (by rw[show(callEnv fd s.heap.objs.size f).builtins=builtinsNs from ok.blt];exact hb1) Kn.sup.blt ⟨rfl,?_⟩)
 refine wpAny_loadName_free ok.kind io.kcls (by show fd.closure.lookup _=some c;rw[io.clo];simp) ⟨_,hK1 _ _ hc,rfl⟩ ?_
 refine wpAny_loadName_local ok.kind hka hns hself ?_
 refine ks_wpAny_isType_cls hD1 hD2 ⟨rfl,?_⟩
 refine ks_wpAny_call_super hD1 hD2 hx1 rfl (λc e=>by simp at e) (looks_mroIn hK1 Kn.sup.sub) (λh2' e2 k2=>?_)
 refine wpAny_bind (wpAny_standAt ?_)
 unfold methodCall
 rw[hform]
 refine wpAny_bind (wpAny_holding ?_)
 unfold calleeOf
 rw[if_pos rfl]
 have hposT:∀p q:Pos,(p.endLine==q.line)=true→methodCallPos true (.Call (.Name (Str.ofString "super") p0) [] [] p1) (callEnv fd s.heap.objs.size f) p q=pure q:=λp q h=>by unfold methodCallPos;simp[h]
 have T2:=fR.grow (s':=⟨h2',s.gens,s.drawn,s.toks+(((gF fd.scope).take F.np).zip (Value.ref x::vs')).length,s.os⟩) T1.cst k2 rfl rfl
 have hof1:=k2 _ _ (hK1 _ _ hol)
 have hK2:X.K.In h2':=hK1.keeps k2
 have hne:x≠X.cls 2:=by
  rintro e;rw[←e] at hD1;rw[hx1] at hD1;cases hD1;simp at hD2
 unfold ks_superIn at g1
 rw[hcd] at g1
 refine ks_wpAny_getMethod_super e2 (looks_opaque hK2 Kn.sup.thr) (l₀:=cdD.mro) (λA Q E s k q=>wpAny_bind ((looks_clsIn hK2 hcd) A _ E s k (wpAny_pure q))) rfl hK2 g1 hof1 hof2 hne (by decide) ?_
 refine wpAny_bind (wpAny_of_eq (hposT _ _ hline) ?_)
 have T3:=(fR.push T2.cst {cls:=.type "method",data:=.fields #[.ref pf,.ref x]}).toks (s.toks+(((gF fd.scope).take F.np).zip (Value.ref x::vs')).length+1)
 have R3:=(R1.step T1.cst T2).step T2.cst T3
 have hmeth:(h2'.push {cls:=.type "method",data:=.fields #[.ref pf,.ref x]}).get? h2'.objs.size=some (methodObj (.ref pf) (.ref x)):=aW _ rfl
 refine callWith_of (P:=MethP X.K h2'.objs.size pf (.ref x)) (by rw[(Trs.plain (pos:=_) (env:=callEnv fd s.heap.objs.size f) es pys hargs).any];rfl) (keeps_M g3) (qJ hargs (wpAny_mono (h1.use hargs ⟨R3,T3.cst,M.deeper _⟩ λφ4 s4 us' T4 r4 F4=>?_) (λξ ξ x=>x) λξ ξ x=>x.elim))
 have hm4:s4.heap.get? h2'.objs.size=some (methodObj (.ref pf) (.ref x)):=T4.keep _ _ hmeth (gQ (T2.cst.notMem (iA _))) id
 refine⟨⟨hm4,F4.C.K⟩,wpAny_call (method_call hm4 ?_)⟩
 have hx3:(h2'.push {cls:=.type "method",data:=.fields #[.ref pf,.ref x]}).get? x=some (instObj (X.cls 2) dx):=aR _ (k2 _ _ hx1)
 have rx4:Rep X φ4 s4.heap (.ref x) (.obj 2 n):=Rep.step T3.cst T4 (.obj hx3 hdx)
 refine codeAny_mono (h2 pf g4 φ4 s4 _ (.ref x::us') (.cons rx4 r4) F4.C (M.deeper _)) λres s5 z=>?_
 rcases res with e | (_ | _ | _ | v5)
 ·exact z.elim
 ·exact z.elim
 ·exact z.elim
 ·exact z.elim
 obtain⟨φ5,T5,r5⟩:=z
 refine PySem.wpAt_of_wpAny (wpAny_mono (h3.use hrest (F4.step T5) λφ6 s6 fl T6 hO F6=>hR▸Ea (S:=no) ((((((T1.trans T2).trans T3).trans T4).trans T5).up.trans T6).hide (S':=no) λa ha=>by rw[ha];exact iA _) hO) (λξ ξ x=>x) λξ ξ x=>x.elim)
end
end
section
open PySem PySem.W PyProof.Rows
set_option genInjectivity false
noncomputable abbrev Kv:=V→W→Prop
noncomputable abbrev Cl:=Fn→List V→W→Kv→Prop
noncomputable abbrev SE:=List V→W→Kv→Prop
noncomputable abbrev SL:=List V→W→(List V→W→Prop)→Prop
noncomputable abbrev SC:=List V→W→(Bool→W→Prop)→Prop
noncomputable abbrev SCs:=BoolOp→List V→W→(Bool→W→Prop)→Prop
noncomputable abbrev SI:=List V→W→(It→W→Prop)→Prop
noncomputable abbrev SS:=List V→W→(List V→Out→W→Prop)→Prop
noncomputable abbrev SA:=V→List V→W→(List V→W→Prop)→Prop
noncomputable abbrev SAs:=List V→List V→W→(List V→W→Prop)→Prop
noncomputable abbrev oK{α:Type}(o:Option α)(K:α→Prop):Prop:=Option.rec (motive:=λξ=>Prop) False K o
noncomputable abbrev pK{α β:Type}(K:α→β→Prop)(z:α×β):Prop:=Prod.rec (motive:=λξ=>Prop) K z
noncomputable abbrev bK(b:Bool)(T F:Prop):Prop:=Bool.rec (motive:=λξ=>Prop) F T b
noncomputable abbrev Cw(o:Out)(G:Prop)(R:V→Prop):Prop:=Out.rec (motive:=λξ=>Prop) G R o
noncomputable def yM(w:W)(v:V):Option (V×W):=(Cr v).bind λn=>(w.get n).bind λc=>hW.casesOn (motive:=λξ=>Option (V×W)) c
 (λds=>(jD ds).bind λl=>if l.length<64 then some (.ref w.next,w.add (.list ((qM l).map .int))) else none)
 (λkvs=>if kvs.length<64 then some (.ref w.next,w.add (.list ((qM (kvs.map (·.1))).map .int))) else none) λξ=>none
noncomputable def ZU(k:Nat)(w:W)(v:V):Option (V×W):=
 if k=0 then(mS w v).map λds=>(.int ds.length,w) else if k=4 then(iS w v).bind λds=>(jD ds).map λl=>(.int l.sum,w) else if k=5 then yM w v
 else if k=6 then(mS w v).map λds=>(.tup ds,w) else if k=7 then(mS w v).map λds=>(.ref w.next,w.add (.list ds)) else none
noncomputable def ZT(k:Nat)(w:W)(a b:V):Option (V×W):=Nt a b λi j=>if k=2 then some (.int (max i j),w) else if k=3 then some (.int (min i j),w) else none
noncomputable def wT(k:Nat)(vs:List V)(w:W):Option (V×W):=
 List.rec (motive:=λξ=>Option (V×W)) none (λa r ξ=>List.rec (motive:=λξ=>Option (V×W)) (ZU k w a) (λb r2 ξ=>if r2.isEmpty then ZT k w a b else none) r) vs
theorem AI{α β:Type}{o:Option α}{f:α→β}{y:β}(h:o.map f=some y):∃a,o=some a∧f a=y:=bE.mp h
theorem mR{α β:Type}{o:Option α}{f:α→Option β}{y:β}(h:o.bind f=some y):∃a,o=some a∧f a=some y:=aH.mp h
theorem BJ{α:Type}{c:Prop}[Decidable c]{a:Option α}{x:α}(h:(if c then a else none)=some x):c∧a=some x:=by
 by_cases q:c
 ·rw[if_pos q] at h;exact⟨q,h⟩
 ·rw[if_neg q] at h;cases h
section
variable{X:Pk}{r:Nat}{w:W}
theorem Sorted.ok(Kn:KnownN X){v:V}{x:V×W}(h:yM w v=some x):Blt X r 5 [v] w x.1 x.2:=by
 obtain⟨n,h1,h⟩:=mR h
 obtain⟨c,h2,h⟩:=mR h
 rw[pG h1]
 cases c with
 |list ds =>
  obtain⟨l,h3,h⟩:=mR h
  obtain⟨h4,h⟩:=BJ h
  cases h;exact .srt h2 h3 h4
 |dict ds=>obtain⟨h4,h⟩:=BJ h;cases h;exact .sortedDict Kn.toKnown0 h2 h4
 |ns=>cases h
theorem Blt1.ok(Kn:KnownN X){k:Nat}{v:V}{x:V×W}(h:ZU k w v=some x):Blt X r k [v] w x.1 x.2:=by
 rcases jP h with⟨rfl,h⟩ | h
 ·obtain⟨ds,h1,rfl⟩:=AI h
  cases mC h1 with
  |tup=>exact .lenTup
  |ref n hn=>exact .lenList hn
 rcases jP h with⟨rfl,h⟩ | h
 ·obtain⟨ds,h1,h⟩:=mR h
  obtain⟨l,h2,rfl⟩:=AI h
  cases jI h1 with | mk n hn=>exact .sm hn h2
 rcases jP h with⟨rfl,h⟩ | h
 ·exact Sorted.ok Kn h
 rcases jP h with⟨rfl,h⟩ | h
 ·obtain⟨ds,h1,rfl⟩:=AI h
  cases mC h1 with
  |tup=>exact .tupTup
  |ref n hn=>exact .tupList hn
 obtain⟨rfl,h⟩:=BJ h
 obtain⟨ds,h1,rfl⟩:=AI h
 cases mC h1 with
 |tup=>exact .listTup
 |ref n hn=>exact .listList hn
theorem Blt.ok(Kn:KnownN X){k:Nat}{vs:List V}{x:V×W}(h:wT k vs w=some x):Blt X r k vs w x.1 x.2:=by
 cases vs with
 |nil=>cases h
 |cons a vs =>
  cases vs with
  |nil=>exact Blt1.ok Kn h
  |cons b vs =>
   obtain⟨e,h⟩:=BJ (show(if vs.isEmpty then ZT k w a b else none)=some x from h)
   rw[cF.mp e]
   obtain⟨i,j,rfl,rfl,h⟩:=vE h
   rcases lQ h with⟨rfl,rfl⟩ | h
   ·exact .mx
   ·obtain⟨rfl,h⟩:=BJ h;cases h;exact .mn
end
noncomputable def Ma(w:W)(x:V):Option (List Nat):=(mS w x).bind λds=>(jD ds).bind λl=>if(l.all λi=>decide (1≤i∧i≤4))=true then some (iN (l.map Int.toNat)) else none
noncomputable def XE(w:W)(a i:V):Option (List V):=(iS w a).bind λds=>(kY i).bind λk=>if 0≤k then some (ds.take k.toNat) else none
noncomputable def Nq(x:V):Bool:=V.casesOn (motive_1:=λξ=>Bool) x false false (λξ=>false) (λξ=>false) (λk=>Nat.beq k 6) (λξ=>false) (λξ=>false) λξ ξ=>false
noncomputable def MD(G:List Int)(w:W)(a i:V):Option (List V):=Bool.rec (motive:=λξ=>Option (List V)) (XE w a i) ((kY i).bind λk=>if 0≤k then some ((G.map V.int).take k.toNat) else none) (Nq a)
noncomputable def Tl(w:W)(a i:V):Option (List V):=(iS w a).bind λds=>(kY i).bind λk=>if 0≤k∧k≤ds.length then some (ds.drop k.toNat) else none
noncomputable def ZH(w:W)(n:Nat)(a b:V):Option W:=Nt a b λi j=>((w.get n).bind pJ).bind λds=>if jC i j=true∧(ds++sR i j).length<lim then some (w.set n (.list (ds++sR i j))) else none
section
variable(G:List Int)(C:Cl)
noncomputable def Wr:SE:=λξ w K=>K .none w
noncomputable def XA(b:Bool):SE:=λξ w K=>K (.bool b) w
noncomputable def Ww(i:Int):SE:=λξ w K=>K (.int i) w
noncomputable def Wo(k:Nat):SE:=λξ w K=>K (.str k) w
noncomputable def Wl(i:Nat):SE:=λρ w K=>oK ρ[i]? λd=>bK (notSet d) (K d w) False
noncomputable def XB(o:Operator)(a b:SE):SE:=λρ w K=>a ρ w λx w=>b ρ w λy w=>oK (Db o w x y) (pK K)
noncomputable def Wt(a:SE):SE:=λρ w K=>a ρ w λx w=>oK (kY x) λi=>K (.int (-i)) w
noncomputable def Sq(a b:SE):SE:=λρ w K=>a ρ w λx w=>oK (Fj x) λt=>bK t (b ρ w λy w=>oK (Fj y) λc=>K (.bool c) w) (K (.bool false) w)
noncomputable def Wy(a:SE)(o:CmpOp)(b:SE):SE:=λρ w K=>a ρ w λx w=>b ρ w λy w=>oK (jK o w x y) λc=>K (.bool c) w
noncomputable def Wv(c:SC)(a b:SE):SE:=λρ w K=>c ρ w λt w=>bK t (a ρ w K) (b ρ w K)
noncomputable def Wm(es:SL):SE:=λρ w K=>es ρ w λds w=>oK (newTup ds w) (pK K)
noncomputable def Wu(es:SL):SE:=λρ w K=>es ρ w λds w=>oK (newList ds w) (pK K)
noncomputable def Sl:SE:=λξ w K=>K (.ref w.next) (w.add (.dict []))
noncomputable def Sk(k v:SE):SE:=λρ w K=>k ρ w λx w=>oK (kY x) λi=>v ρ w λd w=>K (.ref w.next) (w.add (.dict [(i,d)]))
noncomputable def Wx(a i:SE):SE:=λρ w K=>a ρ w λx w=>i ρ w λy w=>oK (jF w x y) λd=>K d w
noncomputable def Lo(a i:SE):SE:=λρ w K=>a ρ w λx w=>i ρ w λy w=>oK (Tl w x y) λds=>K (.ref w.next) (w.add (.list ds))
noncomputable def Wp(a i:SE):SE:=λρ w K=>a ρ w λx w=>i ρ w λy w=>oK (MD G w x y) λds=>K (.ref w.next) (w.add (.list ds))
noncomputable def So(a:SE)(f:Nat):SE:=λρ w K=>a ρ w λx w=>oK (Gn w x f) λd=>K d w
noncomputable def Ts(k:Nat)(ds:List V)(w:W)(K:Kv):Prop:=
 bK (decide (k<10)) (oK (wT k ds w) (pK K))
  (bK (decide (24≤k∧k<27)) (oK (mtL.lookup (k-24,5)) λF=>C F (.obj (k-24) w.next::ds) (w.add (.ns [])) λd w'=>d=.none∧K (.obj (k-24) w.next) w')
   (oK (fnL.lookup k) λF=>C F ds w K))
noncomputable def Sn(k:Nat)(es:SL):SE:=λρ w K=>es ρ w λds w=>Ts C k ds w K
noncomputable def Hr(a:SE):SE:=λρ w K=>a ρ w λx w=>oK (Ma w x) λl=>K (.int l.length) w
noncomputable def Hq(a:SE):SE:=λρ w K=>a ρ w λx w=>oK (Ma w x) λl=>K (.ref w.next) (w.add (.list (l.map λ(v:Nat)=>V.int (v:Int))))
noncomputable def Si(o:SE)(m:Nat)(es:SL):SE:=λρ w K=>o ρ w λx w =>
 Option.rec (motive:=λξ=>Prop)
  (oK (nsW w x) (pK λc=>pK λn ξ=>es ρ w λvs w=>oK (mtL.lookup (c,m)) λF=>C F (.obj c n::vs) w K))
  (λn=>oK (iS w (.ref n)) λξ=>es ρ w λvs w=>oK (iS w (.ref n)) λds=>oK (Ge n m ds vs w) (pK K)) (Cr x)
noncomputable def Sj(o a b:SE):SE:=λρ w K=>o ρ w λx w=>oK (Cr x) λn=>oK (iS w (.ref n)) λξ=>a ρ w λy w=>b ρ w λz w=>oK (ZH w n y z) λw=>K .none w
noncomputable def xW(elt:SE)(k:Nat)(cs:SCs):Nat→It→List V→List V→W→(List V→W→Prop)→Prop:=
 Nat.rec (λξ ξ ξ ξ ξ=>False) λξ R it ρ acc w K=>bK (mK it) False (oK (kU it w) λres=>Option.rec (motive:=λξ=>Prop) (K acc w)
  (pK λv it=>oK (yB k v) λown=>cs .And (ρ++own) w λb w=>bK b (elt (ρ++own) w λd w=>acc.length<lim∧R it ρ (acc++[d]) w K) (R it ρ acc w K)) res)
noncomputable def Lq(one:Bool)(elt:SE)(k:Nat)(it:SI)(cs:SCs):SE:=λρ w K=>bK one (it ρ w λi w=>∃n,xW elt k cs n i ρ [] w λds w=>K (.ref w.next) (w.add (.list ds))) False
noncomputable def JO:SCs:=λo ξ w K=>BoolOp.rec (motive:=λξ=>Prop) (K true w) (K false w) o
noncomputable def Gx(elt:SE)(k k2:Nat)(it2:SI):Nat→It→List V→List V→W→(List V→W→Prop)→Prop:=
 Nat.rec (λξ ξ ξ ξ ξ=>False) λξ R it ρ acc w K=>bK (mK it) False (oK (kU it w) λres=>Option.rec (motive:=λξ=>Prop) (K acc w)
  (pK λv it=>oK (yB k v) λown=>it2 (ρ++own) w λi2 w=>∃n,xW elt k2 JO n i2 (ρ++own) acc w λacc w=>R it ρ acc w K) res)
noncomputable def Lp(elt:SE)(k:Nat)(it:SI)(k2:Nat)(it2:SI):SE:=λρ w K=>it ρ w λi w=>∃n,Gx elt k k2 it2 n i ρ [] w λds w=>K (.ref w.next) (w.add (.list ds))
noncomputable def Ws:SL:=λξ w K=>K [] w
noncomputable def Sm(e:SE)(es:SL):SL:=λρ w K=>e ρ w λd w=>es ρ w λds w=>K (d::ds) w
noncomputable def Wq(c:SC):SC:=λρ w K=>c ρ w λb w=>K (!b) w
noncomputable def Wz(o:BoolOp)(cs:SCs):SC:=λρ w K=>cs o ρ w K
noncomputable def XG(a:SE)(o:CmpOp)(b:SE):SC:=λρ w K=>a ρ w λx w=>b ρ w λy w=>oK (jK o w x y) λc=>K c w
noncomputable def Sv(a:SE)(o:CmpOp)(b:SE)(o2:CmpOp)(c:SE):SC:=λρ w K=>a ρ w λx w=>b ρ w λy w=>oK (jK o w x y) λt=>bK t (c ρ w λz w=>oK (jK o2 w y z) λu=>K u w) (K false w)
noncomputable def XF(e:SE):SC:=λρ w K=>e ρ w λd w=>oK (Fj d) λb=>K b w
noncomputable def Os(c:SC)(cs:SCs):SCs:=λo ρ w K=>c ρ w λb w=>BoolOp.rec (motive:=λξ=>Prop) (bK b (cs .And ρ w K) (K false w)) (bK b (K true w) (cs .Or ρ w K)) o
noncomputable def TM(a:SE):SI:=λρ w K=>a ρ w λx w=>oK (kY x) λb=>bK (jC 0 b) (K (.rng 0 b.toNat) w) False
noncomputable def TL(a b:SE):SI:=λρ w K=>a ρ w λx w=>b ρ w λy w=>oK (kY x) λi=>oK (kY y) λj=>bK (jC i j) (K (.rng i (j-i).toNat) w) False
noncomputable def YI(a b c:SE):SI:=λρ w K=>a ρ w λx w=>b ρ w λy w=>c ρ w λz w=>oK (GE x) λd1=>oK (GE y) λd2=>oK (GE z) λd3=>d1.length=d2.length∧d1.length=d3.length∧K (.zip d1 d2 d3 0) w
noncomputable def iOf(e:SE):SI:=λρ w K=>e ρ w λd w=>oK (VQ w d) λi=>K i w
end
noncomputable def Eb(cs:Ces):Bool:=Ces.casesOn (motive_4:=λξ=>Bool) cs true λξ cs=>Ces.casesOn (motive_4:=λξ=>Bool) cs true λξ ξ=>false
noncomputable abbrev RE:=List Int→Cl→SE
noncomputable abbrev RL:=List Int→Cl→SL
noncomputable abbrev RC:=List Int→Cl→SC
noncomputable abbrev RCs:=List Int→Cl→SCs
noncomputable abbrev RI:=List Int→Cl→SI
noncomputable def NU:RE:=λξ ξ=>Wr
noncomputable def Nd(b:Bool):RE:=λξ ξ=>XA b
noncomputable def NZ(i:Int):RE:=λξ ξ=>Ww i
noncomputable def NR(k:Nat):RE:=λξ ξ=>Wo k
noncomputable def NP(i:Nat):RE:=λξ ξ=>Wl i
noncomputable def Nf(o:Operator)(_ _:Ex)(a b:RE):RE:=λG C=>XB o (a G C) (b G C)
noncomputable def NW(_:Ex)(a:RE):RE:=λG C=>Wt (a G C)
noncomputable def FD(_ _:Ex)(a b:RE):RE:=λG C=>Sq (a G C) (b G C)
noncomputable def Nb(_:Ex)(o:CmpOp)(_:Ex)(a b:RE):RE:=λG C=>Wy (a G C) o (b G C)
noncomputable def NY(_:Ce)(_ _:Ex)(c:RC)(a b:RE):RE:=λG C=>Wv (c G C) (a G C) (b G C)
noncomputable def NQ(_:Exs)(a:RL):RE:=λG C=>Wm (a G C)
noncomputable def NX(_:Exs)(a:RL):RE:=λG C=>Wu (a G C)
noncomputable def Ez:RE:=λξ ξ=>Sl
noncomputable def Ey(_ _:Ex)(a b:RE):RE:=λG C=>Sk (a G C) (b G C)
noncomputable def Na(_ _:Ex)(a b:RE):RE:=λG C=>Wx (a G C) (b G C)
noncomputable def AK(_ _:Ex)(a b:RE):RE:=λG C=>Lo (a G C) (b G C)
noncomputable def NS(_ _:Ex)(a b:RE):RE:=λG C=>Wp G (a G C) (b G C)
noncomputable def FC(_:Ex)(f:Nat)(a:RE):RE:=λG C=>So (a G C) f
noncomputable def FB(k:Nat)(_:Exs)(a:RL):RE:=λG C=>Sn C k (a G C)
noncomputable def uP(_:Ex)(a:RE):RE:=λG C=>Hr (a G C)
noncomputable def uO(_:Ex)(a:RE):RE:=λG C=>Hq (a G C)
noncomputable def Eu(_:Ex)(m:Nat)(_:Exs)(a:RE)(b:RL):RE:=λG C=>Si C (a G C) m (b G C)
noncomputable def Ew(_ _ _:Ex)(a b c:RE):RE:=λG C=>Sj (a G C) (b G C) (c G C)
noncomputable def AN(_:Ex)(k:Nat)(_:Ie)(cs:Ces)(e:RE)(i:RI)(c:RCs):RE:=λG C=>Lq (Eb cs) (e G C) k (i G C) (c G C)
noncomputable def AM(_:Ex)(k:Nat)(_:Ie)(k2:Nat)(_:Ie)(e:RE)(i j:RI):RE:=λG C=>Lp (e G C) k (i G C) k2 (j G C)
noncomputable def NV:RL:=λξ ξ=>Ws
noncomputable def FA(_:Ex)(_:Exs)(a:RE)(b:RL):RL:=λG C=>Sm (a G C) (b G C)
noncomputable def NT(_:Ce)(c:RC):RC:=λG C=>Wq (c G C)
noncomputable def Nc(o:BoolOp)(_:Ces)(c:RCs):RC:=λG C=>Wz o (c G C)
noncomputable def Ep(_:Ex)(o:CmpOp)(_:Ex)(a b:RE):RC:=λG C=>XG (a G C) o (b G C)
noncomputable def AJ(_:Ex)(o:CmpOp)(_:Ex)(o2:CmpOp)(_:Ex)(a b c:RE):RC:=λG C=>Sv (a G C) o (b G C) o2 (c G C)
noncomputable def Eo(_:Ex)(a:RE):RC:=λG C=>XF (a G C)
noncomputable def AL:RCs:=λξ ξ=>JO
noncomputable def uQ(_:Ce)(_:Ces)(c:RC)(d:RCs):RCs:=λG C=>Os (c G C) (d G C)
noncomputable def Es(_:Ex)(a:RE):RI:=λG C=>TM (a G C)
noncomputable def Er(_ _:Ex)(a b:RE):RI:=λG C=>TL (a G C) (b G C)
noncomputable def NO(_ _ _:Ex)(a b c:RE):RI:=λG C=>YI (a G C) (b G C) (c G C)
noncomputable def mOf(_:Ex)(a:RE):RI:=λG C=>iOf (a G C)
noncomputable def evR:Ex→RE:=Ex.rec (motive_1:=λξ=>RE) (motive_2:=λξ=>RL) (motive_3:=λξ=>RC) (motive_4:=λξ=>RCs) (motive_5:=λξ=>RI) NU Nd NZ NR NP Nf NW FD Nb NY NQ NX Ez Ey Na AK NS FC FB uP uO Eu Ew AN AM NV FA NT Nc Ep AJ Eo AL uQ Es Er NO mOf
noncomputable def aAc:Exs→RL:=Exs.rec (motive_1:=λξ=>RE) (motive_2:=λξ=>RL) (motive_3:=λξ=>RC) (motive_4:=λξ=>RCs) (motive_5:=λξ=>RI) NU Nd NZ NR NP Nf NW FD Nb NY NQ NX Ez Ey Na AK NS FC FB uP uO Eu Ew AN AM NV FA NT Nc Ep AJ Eo AL uQ Es Er NO mOf
noncomputable def aA1:Ce→RC:=Ce.rec (motive_1:=λξ=>RE) (motive_2:=λξ=>RL) (motive_3:=λξ=>RC) (motive_4:=λξ=>RCs) (motive_5:=λξ=>RI) NU Nd NZ NR NP Nf NW FD Nb NY NQ NX Ez Ey Na AK NS FC FB uP uO Eu Ew AN AM NV FA NT Nc Ep AJ Eo AL uQ Es Er NO mOf
noncomputable def XD:Ces→RCs:=Ces.rec (motive_1:=λξ=>RE) (motive_2:=λξ=>RL) (motive_3:=λξ=>RC) (motive_4:=λξ=>RCs) (motive_5:=λξ=>RI) NU Nd NZ NR NP Nf NW FD Nb NY NQ NX Ez Ey Na AK NS FC FB uP uO Eu Ew AN AM NV FA NT Nc Ep AJ Eo AL uQ Es Er NO mOf
noncomputable def itR:Ie→RI:=Ie.rec (motive_1:=λξ=>RE) (motive_2:=λξ=>RL) (motive_3:=λξ=>RC) (motive_4:=λξ=>RCs) (motive_5:=λξ=>RI) NU Nd NZ NR NP Nf NW FD Nb NY NQ NX Ez Ey Na AK NS FC FB uP uO Eu Ew AN AM NV FA NT Nc Ep AJ Eo AL uQ Es Er NO mOf
section
variable(G:List Int)(C:Cl)
noncomputable def evW(e:Ex):SE:=evR e G C
noncomputable def Oh(e:Exs):SL:=aAc e G C
noncomputable def Dz(e:Ce):SC:=aA1 e G C
noncomputable def Su(e:Ces):SCs:=XD e G C
noncomputable def itW(e:Ie):SI:=itR e G C
end
inductive Got(P K:V→W→Prop):Prop | mk (d:V) (w:W):P d w→K d w→Got P K
inductive Sg(P K:List V→W→Prop):Prop | mk (d:List V) (w:W):P d w→K d w→Sg P K
inductive WW(P K:Bool→W→Prop):Prop | mk (d:Bool) (w:W):P d w→K d w→WW P K
inductive Zr(P K:It→W→Prop):Prop | mk (d:It) (w:W):P d w→K d w→Zr P K
inductive OkV{α:Type}(o:Option α)(K:α→Prop):Prop | mk (x:α):o=some x→K x→OkV o K
theorem fX{α:Type}{o:Option α}{K:α→Prop}(h:oK o K):OkV o K:=by
 cases o with
 |none=>exact h.elim
 |some x=>exact⟨x,rfl,h⟩
theorem mD{b:Bool}{T F:Prop}(h:bK b T F):(b=true∧T)∨(b=false∧F):=by
 cases b with
 |true=>exact .inl ⟨rfl,h⟩
 |false=>exact .inr ⟨rfl,h⟩
theorem vM{b:Bool}{T:Prop}(h:bK b T False):b=true∧T:=(mD h).elim id λx=>x.2.elim
structure jE(G:List Int)(X:Pk):Prop extends KnownN X where
 gis:X.gis=G
theorem jE.with{G:List Int}{X:Pk}(Kn:jE G X)(B:Addr→Prop):jE G (X.with B):=⟨Kn.toKnownN.with B,Kn.gis⟩
section
variable(G:List Int)
noncomputable def hE(q:Nat)(e:Ex)(f:SE):Prop:=∀ρ w K,f ρ w K→Got (λd w'=>∀X,jE G X→Ev X q e ρ w d w'∧(isC e=true→EvU X q e ρ w d w')) K
noncomputable def hL(q:Nat)(e:Exs)(f:SL):Prop:=∀ρ w K,f ρ w K→Sg (λd w'=>∀X,jE G X→Evs X q e ρ w d w') K
noncomputable def hC(q:Nat)(e:Ce)(f:SC):Prop:=∀ρ w K,f ρ w K→WW (λd w'=>∀X,jE G X→Tst X q e ρ w d w') K
noncomputable def hCs(q:Nat)(e:Ces)(f:SCs):Prop:=∀o ρ w K,f o ρ w K→WW (λd w'=>∀X,jE G X→qK X q o e ρ w d w'∧(o=.And→Eb e=true→Hh X q ρ w d w' e)) K
noncomputable def hI(q:Nat)(e:Ie)(f:SI):Prop:=∀ρ w K,f ρ w K→Zr (λd w'=>∀X,jE G X→pB X q e ρ w d w') K
noncomputable def hO(q:Nat)(C:Cl):Prop:=∀F ds w K,C F ds w K→Got (λd w'=>∀X,jE G X→∀f,CS X f F→oL X q (.ref f) ds w d w') K
end
theorem lM.less{r:Nat}{A:Around}(M:lM (r+1) A):lM r A:=⟨M.hand,by have:=M.depth;lia,by have:=M.units;lia⟩
theorem oL.up{X:Pk}{r:Nat}{f:Value}{ds:List V}{w w1:W}{d:V}(h:oL X r f ds w d w1):oL X (r+1) f ds w d w1:=λφ s A vs R C M=>h φ s A vs R C M.less
section
variable{q:Nat}{G:List Int}{C:Cl}
theorem gE{e:Ex}{ρ w K d w'}(h:∀X,jE G X→Ev X q e ρ w d w')(hc:isC e=false)(k:K d w'):Got (λd w'=>∀X,jE G X→Ev X q e ρ w d w'∧(isC e=true→EvU X q e ρ w d w')) K:=
 ⟨d,w',λX Kn=>⟨h X Kn,λz=>absurd (hc.symm.trans z) bC⟩,k⟩
theorem Yi:hE G q .non Wr:=λρ w K h=>gE (λX Kn=>.non) rfl h
theorem Yq(b:Bool):hE G q (.boo b) (XA b):=λρ w K h=>gE (λX Kn=>.boo) rfl h
theorem Ym(b:Int):hE G q (.int b) (Ww b):=λρ w K h=>gE (λX Kn=>.int) rfl h
theorem YY(b:Nat):hE G q (.str b) (Wo b):=λρ w K h=>gE (λX Kn=>.str) rfl h
theorem KP{d:V}(h:notSet d=true):d≠.unset:=λe=>by subst e;exact absurd h bC
theorem YW(i:Nat):hE G q (.var i) (Wl i):=λρ w K h=>(fX h).casesOn λd e h=>gE (λX Kn=>.var e (KP (vM h).1)) rfl (vM h).2
variable{a b c:Ex}{fa fb fc:SE}{es:Exs}{fs:SL}{ce:Ce}{ft:SC}
theorem Yr(o:Operator)(ha:hE G q a fa)(hb:hE G q b fb):hE G q (.bin o a b) (XB o fa fb):=λρ w K h=>(ha _ _ _ h).casesOn λx w1 h1 h=>(hb _ _ _ h).casesOn λy w2 h2 h=>(fX h).casesOn λz e h =>
 gE (λX Kn=>.bin (h1 X Kn).1 (h2 X Kn).1 (Bin.ok e)) rfl h
theorem Yj(ha:hE G q a fa):hE G q (.neg a) (Wt fa):=λρ w K h=>(ha _ _ _ h).casesOn λx w1 h1 h=>(fX h).casesOn λz e h=>gE (λX Kn=>.neg (hU e▸(h1 X Kn).1)) rfl h
theorem Th(ha:hE G q a fa)(hb:hE G q b fb):hE G q (.and2 a b) (Sq fa fb):=λρ w K h=>(ha _ _ _ h).casesOn λx w1 h1 h=>(fX h).casesOn λt e h=>(mD h).elim
 (λz=>(hb _ _ _ z.2).casesOn λy w2 h2 h=>(fX h).casesOn λu e2 h=>gE (λX Kn=>.land (pY e▸(h1 X Kn).1) (λξ=>pY e2▸(h2 X Kn).1) λe=>absurd (z.1.symm.trans e).symm bC) rfl h)
 λz=>gE (λX Kn=>.land (pY e▸(h1 X Kn).1) (λe=>absurd (z.1.symm.trans e) bC) λξ=>⟨rfl,rfl⟩) rfl z.2
theorem Yo(o:CmpOp)(ha:hE G q a fa)(hb:hE G q b fb):hE G q (.cmp a o b) (Wy fa o fb):=λρ w K h=>(ha _ _ _ h).casesOn λx w1 h1 h=>(hb _ _ _ h).casesOn λy w2 h2 h=>(fX h).casesOn λz e h =>
 gE (λX Kn=>.cmp (h1 X Kn).1 (h2 X Kn).1 (Cmp.ok Kn.mods e)) rfl h
theorem Yl(hc:hC G q ce ft)(ha:hE G q a fa)(hb:hE G q b fb):hE G q (.ite ce a b) (Wv ft fa fb):=λρ w K h=>(hc _ _ _ h).casesOn λt w1 h1 h=>(mD h).elim
 (λz=>(ha _ _ _ z.2).casesOn λy w2 h2 h=>gE (λX Kn=>.ite (h1 X Kn) (by rw[z.1];exact(h2 X Kn).1)) rfl h)
 λz=>(hb _ _ _ z.2).casesOn λy w2 h2 h=>gE (λX Kn=>.ite (h1 X Kn) (by rw[z.1];exact(h2 X Kn).1)) rfl h
theorem YX(hs:hL G q es fs):hE G q (.tup es) (Wm fs):=λρ w K h=>(hs _ _ _ h).casesOn λds w1 h1 h=>(fX h).casesOn λz e h=>by
 obtain⟨e1,rfl⟩:=AE e
 exact gE (λX Kn=>.tup (h1 X Kn) e1) rfl h
theorem Yk(hs:hL G q es fs):hE G q (.lst es) (Wu fs):=λρ w K h=>(hs _ _ _ h).casesOn λds w1 h1 h=>(fX h).casesOn λz e h=>by
 obtain⟨e1,rfl⟩:=oS e
 exact gE (λX Kn=>.lst (h1 X Kn) e1) rfl h
theorem Tc:hE G q .dct0 Sl:=λρ w K h=>gE (λX Kn=>.dct0) rfl h
theorem Ta(ha:hE G q a fa)(hb:hE G q b fb):hE G q (.dct1 a b) (Sk fa fb):=λρ w K h=>(ha _ _ _ h).casesOn λx w1 h1 h=>(fX h).casesOn λz e h=>(hb _ _ _ h).casesOn λy w2 h2 h =>
 gE (λX Kn=>.dct1 (hU e▸(h1 X Kn).1) (h2 X Kn).1) rfl h
theorem Yn(ha:hE G q a fa)(hb:hE G q b fb):hE G q (.idx a b) (Wx fa fb):=λρ w K h=>(ha _ _ _ h).casesOn λx w1 h1 h=>(hb _ _ _ h).casesOn λy w2 h2 h=>(fX h).casesOn λz e h =>
 gE (λX Kn=>.idx (h1 X Kn).1 (h2 X Kn).1 (Itm.ok e)) rfl h
theorem OJ(ha:hE G q a fa)(hb:hE G q b fb):hE G q (.sfrom a b) (Lo fa fb):=λρ w K h=>(ha _ _ _ h).casesOn λx w1 h1 h=>(hb _ _ _ h).casesOn λy w2 h2 h=>(fX h).casesOn λz e h=>by
 obtain⟨ds,e1,e⟩:=mR e
 obtain⟨k,e2,e⟩:=mR e
 obtain⟨e3,e⟩:=BJ e
 cases e
 exact gE (λX Kn=>.sfrom (h1 X Kn).1 (hU e2▸(h2 X Kn).1) (jI e1) e3.1 e3.2) rfl h
theorem Ko{x:V}(h:Nq x=true):x=.str 6:=by
 cases x<;>first | exact absurd h bC | exact congrArg _ (Nat.eq_of_beq_eq_true h)
theorem YZ(ha:hE G q a fa)(hb:hE G q b fb):hE G q (.sto a b) (Wp G fa fb):=λρ w K h=>(ha _ _ _ h).casesOn λx w1 h1 h=>(hb _ _ _ h).casesOn λy w2 h2 h=>(fX h).casesOn λz e h=>by
 unfold MD at e
 cases hg:Nq x with
 |true =>
  rw[hg] at e
  obtain⟨k,e2,e⟩:=mR e
  obtain⟨e3,e⟩:=BJ e
  cases e
  exact gE (λX Kn=>Kn.gis▸.stoG (Ko hg▸(h1 X Kn).1) (hU e2▸(h2 X Kn).1) e3) rfl h
 |false =>
  rw[hg] at e
  obtain⟨ds,e1,e⟩:=mR e
  obtain⟨k,e2,e⟩:=mR e
  obtain⟨e3,e⟩:=BJ e
  cases e
  exact gE (λX Kn=>.sto (h1 X Kn).1 (hU e2▸(h2 X Kn).1) (jI e1) e3) rfl h
theorem Tf(f:Nat)(ha:hE G q a fa):hE G q (.attr a f) (So fa f):=λρ w K h=>(ha _ _ _ h).casesOn λx w1 h1 h=>(fX h).casesOn λz e h=>gE (λX Kn=>.attr Kn.toKnown0 (h1 X Kn).1 e) rfl h
theorem oV{κ α:Type}[BEq κ][LawfulBEq κ]{k:κ}{v:α}:∀(l:List (κ×α)),l.lookup k=some v→(k,v)∈l:=
 List.rec (λh=>nomatch h) λp r ih h=>by
  rw[dC] at h
  cases q:k==p.1 with
  |true=>rw[q] at h;cases (Option.some.inj h);rw[eq_of_beq q];exact aZ
  |false=>rw[q] at h;exact bA _ (ih h)
theorem Oy{X:Pk}(Kn:KnownN X){c:Nat}{F:Fn}(h:mtL.lookup (c,5)=some F):∃f,findIn X.K (.ref (X.cls c)) "__init__" = some (some (.ref f))∧typeIn X.K (.ref f)=some (.type "function")∧CS X f F:=by
 obtain⟨f,h1,h2,h3,h4⟩:=Kn.meth _ (oV _ h)
 exact⟨f,h1,by have:=h2;unfold isFn at this;simpa using this,h4⟩
theorem ST{k:Nat}{ds:List V}{w:W}{K:Kv}(ho:hO G q C)(h:Ts C k ds w K):Got (λd w'=>∀X,jE G X→∃f,xG X k f∧xZ X f∧Fz X (q+1) f ds w d w') K:=by
 rcases mD h with⟨z,h⟩ | ⟨z,h⟩
 ·have hk:=of_decide_eq_true z
  refine(fX h).casesOn λx e h=>⟨_,_,λX Kn=>⟨qS k,.blt (Kn.blt k hk).1 (Kn.blt k hk).2,?_,Blt.ok Kn.toKnownN e⟩,h⟩
  exact iX (P:=λk=>xZ X (qS k)) (iX (iX (iX (iX (iX (iX (iX (iX (iX (λξ h=>absurd h (cU _)) (.blt _)) (.typ _)) (.blt _)) (.blt _)) (.blt _)) (.blt _)) (.typ _)) (.typ _)) (.typ _)) (.typ _) k hk
 rcases mD h with⟨z,h⟩ | ⟨z,h⟩
 ·have hk:=of_decide_eq_true z
  refine(fX h).casesOn λF e h=>(ho _ _ _ _ h).casesOn λd w' h1 h=>⟨_,_,λX Kn=>?_,h.2⟩
  obtain⟨c1,c2,c3⟩:=Kn.cls (k-24) (Nat.sub_lt_left_of_lt_add hk.1 hk.2)
  obtain⟨f,f1,f2,f3⟩:=Oy Kn.toKnownN e
  refine⟨_,.own ((congrArg (λj=>X.mg (nm j)) (Nat.add_sub_cancel' hk.1).symm).trans c1),.own _ c2,(oL.make c3 f1 f2 ?_).call⟩
  rw[←h.1];exact h1 X Kn f f3
 ·refine(fX h).casesOn λF e h=>(ho _ _ _ _ h).casesOn λd w' h1 h=>⟨_,_,λX Kn=>?_,h⟩
  obtain⟨f,f1,f2,f3⟩:=Kn.fn _ (oV _ e)
  exact⟨_,.own f1,.own _ f2,(h1 X Kn f (.inl f3)).up.call⟩
theorem Td(ho:hO G q C)(k:Nat)(hs:hL G (q+1) es fs):hE G (q+1) (.call k es) (Sn C k fs):=λρ w K h=>(hs _ _ _ h).casesOn λds w1 h1 h=>(ST ho h).casesOn λd w2 h2 h =>
 gE (λX Kn=>(h2 X Kn).elim λf x=>.callG (h1 X Kn) x.1 x.2.1 x.2.2) rfl h
theorem ET{w:W}{x:V}{l:List Nat}(h:Ma w x=some l):∃ds is,xY w ds x∧jD ds=some is∧(∀i∈is,1≤i∧i≤4)∧l=iN (is.map Int.toNat):=by
 obtain⟨ds,h1,h⟩:=mR h
 obtain⟨is,h2,h⟩:=mR h
 obtain⟨h3,h⟩:=BJ h
 cases h
 exact⟨ds,is,mC h1,h2,λi hi=>of_decide_eq_true (cC.mp h3 i hi),rfl⟩
theorem JC(ha:hE G q a fa):hE G q (.lenSet a) (Hr fa):=λρ w K h=>(ha _ _ _ h).casesOn λx w1 h1 h=>(fX h).casesOn λl e h=>by
 obtain⟨ds,is,e1,e2,e3,rfl⟩:=ET e
 exact gE (λX Kn=>.lenSet Kn.toKnownN (h1 X Kn).1 e1 e2 e3) rfl h
theorem JB(ha:hE G q a fa):hE G q (.srtSet a) (Hq fa):=λρ w K h=>(ha _ _ _ h).casesOn λx w1 h1 h=>(fX h).casesOn λl e h=>by
 obtain⟨ds,is,e1,e2,e3,rfl⟩:=ET e
 exact gE (λX Kn=>.sortedSet Kn.toKnownN (h1 X Kn).1 e1 e2 e3) rfl h
theorem TY(ho:hO G q C)(m:Nat)(ha:hE G (q+1) a fa)(hs:hL G (q+1) es fs):hE G (q+1) (.meth a m es) (Si C fa m fs):=λρ w K h=>(ha _ _ _ h).casesOn λx w1 h1 h=>by
 cases hr:Cr x with
 |none =>
  rw[hr] at h
  refine(fX h).casesOn λy e h=>(hs _ _ _ h).casesOn λvs w2 h2 h=>(fX h).casesOn λF e2 h=>(ho _ _ _ _ h).casesOn λd w3 h3 h=>gE (λX Kn=>?_) rfl h
  cases DA e with | mk c n fs hc hn =>
  obtain⟨f,f1,f2,f3,f4⟩:=Kn.meth _ (oV _ e2)
  exact .methObj Kn.toKnown0 (h1 X Kn).1 hc hn (h2 X Kn) ⟨f1,f2,f3⟩ (h3 X Kn f f4).up.call
 |some n =>
  rw[hr] at h
  obtain rfl:=pG hr
  refine(fX h).casesOn λl e h=>(hs _ _ _ h).casesOn λvs w2 h2 h=>(fX h).casesOn λds e2 h=>(fX h).casesOn λz e3 h=>?_
  cases jI e with | mk _ hn =>
  cases jI e2 with | mk _ hn2 =>
  exact gE (λX Kn=>.methList (h1 X Kn).1 (Lm.ok (X:=X) (r:=q+1) hn2 e3).1 hn (h2 X Kn) (Lm.ok hn2 e3).2) rfl h
theorem TZ(ha:hE G q a fa)(hb:hE G q b fb)(hc:hE G q c fc):hE G q (.extR a b c) (Sj fa fb fc):=λρ w K h=>(ha _ _ _ h).casesOn λx w1 h1 h=>(fX h).casesOn λn e h=>(fX h).casesOn λl e1 h =>
 (hb _ _ _ h).casesOn λy w2 h2 h=>(hc _ _ _ h).casesOn λz w3 h3 h=>(fX h).casesOn λw4 e2 h=>by
 obtain rfl:=pG e
 cases jI e1 with | mk _ hn =>
 obtain⟨i,j,rfl,rfl,e2⟩:=vE e2
 obtain⟨ds,e4,e2⟩:=mR e2
 obtain⟨e5,e2⟩:=BJ e2
 obtain⟨cc,e6,e7⟩:=mR e4
 cases e2
 rw[sG e7] at e6
 exact gE (λX Kn=>.extendRange Kn.toKnownN (h1 X Kn).1 hn (h2 X Kn).1 (h3 X Kn).1 e6 e5.1 e5.2) rfl h
theorem VY:hL G q .nil Ws:=λρ w K h=>⟨_,_,λX Kn=>.nil,h⟩
theorem ON(ha:hE G q a fa)(hs:hL G q es fs):hL G q (.cons a es) (Sm fa fs):=λρ w K h=>(ha _ _ _ h).casesOn λx w1 h1 h=>(hs _ _ _ h).casesOn λy w2 h2 h=>⟨_,_,λX Kn=>.cons (h1 X Kn).1 (h2 X Kn),h⟩
theorem Yh(hc:hC G q ce ft):hC G q (.not ce) (Wq ft):=λρ w K h=>(hc _ _ _ h).casesOn λt w1 h1 h=>⟨_,_,λX Kn=>.not (h1 X Kn),h⟩
variable{cs:Ces}{fcs:SCs}
theorem Yp(o:BoolOp)(hs:hCs G q cs fcs):hC G q (.bop o cs) (Wz o fcs):=λρ w K h=>(hs _ _ _ _ h).casesOn λt w1 h1 h=>⟨_,_,λX Kn=>.bop (h1 X Kn).1,h⟩
theorem TX(o:CmpOp)(ha:hE G q a fa)(hb:hE G q b fb):hC G q (.cmp a o b) (XG fa o fb):=λρ w K h=>(ha _ _ _ h).casesOn λx w1 h1 h=>(hb _ _ _ h).casesOn λy w2 h2 h=>(fX h).casesOn λz e h =>
 ⟨_,_,λX Kn=>.cmp (h1 X Kn).1 (h2 X Kn).1 (Cmp.ok Kn.mods e),h⟩
theorem OI(o o2:CmpOp)(ha:hE G q a fa)(hb:hE G q b fb)(hc:hE G q c fc):hC G q (.cmp2 a o b o2 c) (Sv fa o fb o2 fc):=λρ w K h=>(ha _ _ _ h).casesOn λx w1 h1 h=>(hb _ _ _ h).casesOn λy w2 h2 h=>(fX h).casesOn λt e h=>(mD h).elim
 (λz=>(hc _ _ _ z.2).casesOn λv w3 h3 h=>(fX h).casesOn λu e2 h=>⟨_,_,λX Kn=>.cmp2 (h1 X Kn).1 (h2 X Kn).1 (Cmp.ok Kn.mods e) (λξ=>⟨(h3 X Kn).1,Cmp.ok Kn.mods e2⟩) λe=>absurd (z.1.symm.trans e).symm bC,h⟩)
 λz=>⟨_,_,λX Kn=>.cmp2 (h1 X Kn).1 (h2 X Kn).1 (Cmp.ok Kn.mods e) (z:=.none) (λe=>absurd (z.1.symm.trans e) bC) λξ=>⟨rfl,rfl⟩,z.2⟩
theorem TW(ha:hE G q a fa):hC G q (.val a) (XF fa):=λρ w K h=>(ha _ _ _ h).casesOn λx w1 h1 h=>(fX h).casesOn λz e h=>⟨_,_,λX Kn=>.val (pY e▸(h1 X Kn).1),h⟩
theorem Gk:hCs G q .nil JO:=λo ρ w K h=>by
 cases o with
 |And=>exact⟨_,_,λX Kn=>⟨.andNil,λξ ξ=>.nil rfl rfl⟩,h⟩
 |Or=>exact⟨_,_,λX Kn=>⟨.orNil,λz=>nomatch z⟩,h⟩
theorem Bl(h:Eb (.cons ce cs)=true):cs=.nil:=by
 cases cs with
 |nil=>rfl
 |cons=>exact absurd h bC
theorem Rh{X:Pk}{ρ:List V}{w w1 w2:W}{t:Bool}(h:Tst X q ce ρ w true w1)(h2:Hh X q ρ w1 t w2 .nil):Hh X q ρ w t w2 (.cons ce .nil):=
 (h2.casesOn (motive:=λcs ξ=>Ces.casesOn (motive_4:=λξ=>Prop) cs (t=true∧w2=w1) λξ ξ=>True) (λe1 e2=>⟨e1,e2⟩) λξ ξ=>trivial:t=true∧w2=w1).casesOn λe1 e2=>by subst e1;subst e2;exact .one _ h
theorem JD(hc:hC G q ce ft)(hs:hCs G q cs fcs):hCs G q (.cons ce cs) (Os ft fcs):=λo ρ w K h=>(hc _ _ _ h).casesOn λt w1 h1 h=>by
 cases o with
 |And =>
  rcases mD h with⟨z,h⟩ | ⟨z,h⟩
  ·exact(hs _ _ _ _ h).casesOn λu w2 h2 h=>⟨_,_,λX Kn=>⟨.andT (z▸h1 X Kn) (h2 X Kn).1,λe x=>by obtain rfl:=Bl x;exact Rh (z▸h1 X Kn) ((h2 X Kn).2 e rfl)⟩,h⟩
  ·exact⟨_,_,λX Kn=>⟨.andF (z▸h1 X Kn),λξ x=>by obtain rfl:=Bl x;exact .one _ (z▸h1 X Kn)⟩,h⟩
 |Or =>
  rcases mD h with⟨z,h⟩ | ⟨z,h⟩
  ·exact⟨_,_,λX Kn=>⟨.orT (z▸h1 X Kn),λe=>nomatch e⟩,h⟩
  ·exact(hs _ _ _ _ h).casesOn λu w2 h2 h=>⟨_,_,λX Kn=>⟨.orF (z▸h1 X Kn) (h2 X Kn).1,λe=>nomatch e⟩,h⟩
theorem OM(ha:hE G q a fa):hI G q (.rng1 a) (TM fa):=λρ w K h=>(ha _ _ _ h).casesOn λx w1 h1 h=>(fX h).casesOn λz e h=>⟨_,_,λX Kn=>.range1 Kn.toKnownN (hU e▸(h1 X Kn).1) (vM h).1,(vM h).2⟩
theorem OL(ha:hE G q a fa)(hb:hE G q b fb):hI G q (.rng2 a b) (TL fa fb):=λρ w K h=>(ha _ _ _ h).casesOn λx w1 h1 h=>(hb _ _ _ h).casesOn λy w2 h2 h=>(fX h).casesOn λi e1 h=>(fX h).casesOn λj e2 h =>
 ⟨_,_,λX Kn=>.range2 Kn.toKnownN (hU e1▸(h1 X Kn).1) (hU e2▸(h2 X Kn).1) (vM h).1,(vM h).2⟩
theorem VU(ha:hE G q a fa)(hb:hE G q b fb)(hc:hE G q c fc):hI G q (.zip a b c) (YI fa fb fc):=λρ w K h=>(ha _ _ _ h).casesOn λx w1 h1 h=>(hb _ _ _ h).casesOn λy w2 h2 h=>(hc _ _ _ h).casesOn λz w3 h3 h =>
 (fX h).casesOn λd1 e1 h=>(fX h).casesOn λd2 e2 h=>(fX h).casesOn λd3 e3 h=>⟨_,_,λX Kn=>.zip Kn.toKnownN (pF e1▸(h1 X Kn).1) (pF e2▸(h2 X Kn).1) (pF e3▸(h3 X Kn).1) h.1 h.2.1,h.2.2⟩
theorem hOf(ha:hE G q a fa):hI G q (.of a) (iOf fa):=λρ w K h=>(ha _ _ _ h).casesOn λx w1 h1 h=>(fX h).casesOn λz e h=>⟨_,_,λX Kn=>.val (h1 X Kn).1 e,h⟩
theorem JP{k:Nat}(h1:hE G q a fa)(hs:hCs G q cs fcs)(one:Eb cs=true):∀(n:Nat) (it:It) (ρ acc:List V) (w:W) (K:List V→W→Prop),xW fa k fcs n it ρ acc w K→Sg (λds w'=>∀X,jE G X→vU X q a k cs it ρ acc w ds w') K:=
 Nat.rec (λit ρ acc w K h=>h.elim) λn ih it ρ acc w K h=>by
  rcases mD h with⟨z,h⟩ | ⟨hz,h⟩
  ·exact h.elim
  refine(fX h).casesOn λres e h=>?_
  cases res with
  |none=>exact⟨_,_,λX Kn=>.stop hz e,h⟩
  |some p =>
   refine(fX h).casesOn λown e2 h=>(hs _ _ _ _ h).casesOn λt w1 h2 h=>?_
   rcases mD h with⟨rfl,h⟩ | ⟨rfl,h⟩
   ·exact(h1 _ _ _ h).casesOn λd w2 h3 h=>(ih _ _ _ _ _ h.2).casesOn λds w3 h4 hk=>⟨_,_,λX Kn=>.turn hz e e2 ((h2 X Kn).2 rfl one) (.inl ⟨rfl,d,w2,(h3 X Kn).1,h.1,h4 X Kn⟩),hk⟩
   ·exact(ih _ _ _ _ _ h).casesOn λds w3 h4 hk=>⟨_,_,λX Kn=>.turn hz e e2 ((h2 X Kn).2 rfl one) (.inr ⟨rfl,h4 X Kn⟩),hk⟩
variable{it it2:Ie}{fi fi2:SI}
theorem OQ(k:Nat)(h1:hE G q a fa)(hi:hI G q it fi)(hs:hCs G q cs fcs):hE G q (.comp1 a k it cs) (Lq (Eb cs) fa k fi fcs):=λρ w K h=>(hi _ _ _ (vM h).2).casesOn λi w1 h2 h'=>h'.elim λn h'=>(JP h1 hs (vM h).1 _ _ _ _ _ _ h').casesOn λds w2 h3 hk =>
 ⟨_,_,λX Kn=>have z:=Ev.comp1 (h2 X Kn) λB=>h3 _ (Kn.with B);⟨z.1,λξ=>z.2⟩,hk⟩
theorem Ou{k k2:Nat}(h1:hE G q a fa)(hi:hI G q it2 fi2):∀(n:Nat) (it:It) (ρ acc:List V) (w:W) (K:List V→W→Prop),Gx fa k k2 fi2 n it ρ acc w K→Sg (λds w'=>∀X,jE G X→uD X q a k k2 it2 it ρ acc w ds w') K:=
 Nat.rec (λit ρ acc w K h=>h.elim) λn ih it ρ acc w K h=>by
  rcases mD h with⟨z,h⟩ | ⟨hz,h⟩
  ·exact h.elim
  refine(fX h).casesOn λres e h=>?_
  cases res with
  |none=>exact⟨_,_,λX Kn=>.stop hz e,h⟩
  |some p=>exact(fX h).casesOn λown e2 h=>(hi _ _ _ h).casesOn λi2 w1 h2 h=>h.elim λm h=>(JP h1 Gk rfl _ _ _ _ _ _ h).casesOn λacc' w2 h3 h=>(ih _ _ _ _ _ h).casesOn λds w3 h4 hk =>
    ⟨_,_,λX Kn=>.turn hz e e2 (h2 X Kn) (λB=>h3 _ (Kn.with B)) (h4 X Kn),hk⟩
theorem OP(k k2:Nat)(h1:hE G q a fa)(hi:hI G q it fi)(hi2:hI G q it2 fi2):hE G q (.comp2 a k it k2 it2) (Lp fa k fi k2 fi2):=λρ w K h=>(hi _ _ _ h).casesOn λi w1 h2 h'=>h'.elim λn h'=>(Ou h1 hi2 _ _ _ _ _ _ h').casesOn λds w2 h3 hk =>
 ⟨_,_,λX Kn=>have z:=Ev.comp2 (h2 X Kn) λB=>h3 _ (Kn.with B);⟨z.1,λξ=>z.2⟩,hk⟩
end
section
variable(G:List Int)(C:Cl)
noncomputable def WA(i:Nat):SA:=λd ρ w K=>K (ρ.set i d) w
noncomputable def Pc(o:SE)(f:Nat):SA:=λd ρ w K=>o ρ w λx w=>oK (Qz w x f d) λw=>K ρ w
noncomputable def WD(o i:SE):SA:=λd ρ w K=>o ρ w λx w=>i ρ w λy w=>oK (tJ w x y d) λw=>K ρ w
noncomputable def WB(n:Nat)(ts:SAs):SA:=λd ρ w K=>oK (GE d) λds=>bK (Nat.beq ds.length n) (ts ds ρ w K) False
noncomputable def WC:SAs:=λds ρ w K=>List.rec (motive:=λξ=>Prop) (K ρ w) (λξ ξ ξ=>False) ds
noncomputable def Pb(t:SA)(ts:SAs):SAs:=λds ρ w K=>List.rec (motive:=λξ=>Prop) False (λd ds ξ=>t d ρ w λρ w=>ts ds ρ w K) ds
end
noncomputable def aAi:Tg→List Int→Cl→SA:=Tg.rec (motive_1:=λξ=>List Int→Cl→SA) (motive_2:=λξ=>List Int→Cl→SAs) (λi ξ ξ=>WA i) (λo f G C=>Pc (evW G C o) f) (λo i G C=>WD (evW G C o) (evW G C i)) (λts a G C=>WB (BW ts) (a G C)) (λξ ξ=>WC) (λξ ξ a b G C=>Pb (a G C) (b G C))
noncomputable def ZX:Tgs→List Int→Cl→SAs:=Tgs.rec (motive_1:=λξ=>List Int→Cl→SA) (motive_2:=λξ=>List Int→Cl→SAs) (λi ξ ξ=>WA i) (λo f G C=>Pc (evW G C o) f) (λo i G C=>WD (evW G C o) (evW G C i)) (λts a G C=>WB (BW ts) (a G C)) (λξ ξ=>WC) (λξ ξ a b G C=>Pb (a G C) (b G C))
section
variable(G:List Int)(C:Cl)
noncomputable def BL(t:Tg):SA:=aAi t G C
noncomputable def ZW(t:Tgs):SAs:=ZX t G C
noncomputable def GQ(e:SE):SS:=λρ w K=>e ρ w λξ w=>K ρ .go w
noncomputable def Mg(e:SE):SS:=λρ w K=>e ρ w λd w=>K ρ (.ret d) w
noncomputable def GO:SS:=λρ w K=>K ρ (.ret .none) w
noncomputable def Ml(t:SA)(e:SE):SS:=λρ w K=>e ρ w λd w=>t d ρ w λρ w=>K ρ .go w
noncomputable def Mk(o i:SE)(op:Operator)(e:SE):SS:=λρ w K=>o ρ w λa w=>i ρ w λx w=>oK ((jF w a x).bind kY) λm=>e ρ w λy w=>oK (kY y) λn=>bK (decide (op=.Add∨op=.Sub)) (oK (tJ w a x (.int (LM op m n))) λw=>K ρ .go w) False
noncomputable def Mh(c:SC)(a b:SS):SS:=λρ w K=>c ρ w λt w=>bK t (a ρ w K) (b ρ w K)
noncomputable def whW(c:SC)(b:SS):Nat→SS:=Nat.rec (λξ ξ ξ=>False) λξ R ρ w K=>c ρ w λt w=>bK t (b ρ w λρ o w=>Cw o (R ρ w K) λd=>K ρ (.ret d) w) (K ρ .go w)
noncomputable def Me(c:SC)(b:SS):SS:=λρ w K=>∃n,whW c b n ρ w K
noncomputable def yE(tg:Bool)(t:SA)(b:SS):Nat→It→SS:=Nat.rec (λξ ξ ξ ξ=>False) λξ R it ρ w K=>bK (!mK it||tg) (oK (kU it w) λres=>Option.rec (motive:=λξ=>Prop) (K ρ .go w)
 (pK λd it=>t d ρ w λρ w=>b ρ w λρ o w=>Cw o (R it ρ w K) λd=>K ρ (.ret d) w) res) False
noncomputable def GP(tg:Bool)(t:SA)(it:SI)(b:SS):SS:=λρ w K=>it ρ w λi w=>∃n,yE tg t b n i ρ w K
noncomputable def PD:SS:=λρ w K=>K ρ .go w
noncomputable def Dc(s b:SS):SS:=λρ w K=>s ρ w λρ o w=>Cw o (b ρ w K) λd=>K ρ (.ret d) w
end
noncomputable def stR:St→List Int→Cl→SS:=St.rec (motive_1:=λξ=>List Int→Cl→SS) (motive_2:=λξ=>List Int→Cl→SS) (λe G C=>GQ (evW G C e)) (λe G C=>Mg (evW G C e)) (λξ ξ=>GO) (λt e G C=>Ml (BL G C t) (evW G C e)) (λo i op e G C=>Mk (evW G C o) (evW G C i) op (evW G C e)) (λc ξ ξ a b G C=>Mh (Dz G C c) (a G C) (b G C)) (λc ξ a G C=>Me (Dz G C c) (a G C))
 (λt it ξ a G C=>GP (lI t) (BL G C t) (itW G C it) (a G C)) (λξ ξ=>PD) (λξ ξ a b G C=>Dc (a G C) (b G C))
noncomputable def bkR:Bk→List Int→Cl→SS:=Bk.rec (motive_1:=λξ=>List Int→Cl→SS) (motive_2:=λξ=>List Int→Cl→SS) (λe G C=>GQ (evW G C e)) (λe G C=>Mg (evW G C e)) (λξ ξ=>GO) (λt e G C=>Ml (BL G C t) (evW G C e)) (λo i op e G C=>Mk (evW G C o) (evW G C i) op (evW G C e)) (λc ξ ξ a b G C=>Mh (Dz G C c) (a G C) (b G C)) (λc ξ a G C=>Me (Dz G C c) (a G C))
 (λt it ξ a G C=>GP (lI t) (BL G C t) (itW G C it) (a G C)) (λξ ξ=>PD) (λξ ξ a b G C=>Dc (a G C) (b G C))
section
variable(G:List Int)(C:Cl)
noncomputable def stW(s:St):SS:=stR s G C
noncomputable def bkW(b:Bk):SS:=bkR b G C
noncomputable def gR(F:Fn)(ds:List V)(w:W)(K:Kv):Prop:=Option.rec (motive:=λξ=>Prop)
 (ds.length=F.np∧bkW G C F.body (ds++aV (F.nv-F.np) .unset) w λξ o w=>K (KO o) w)
 (λes=>(ds.length=F.np∧∃n r,ds=.obj 2 n::r)∧Oh G C es (ds++aV (F.nv-F.np) .unset) w λus w=>C zM (ds.headD .none::us) w λd w=>d=.none∧bkW G C F.body (ds++aV (F.nv-F.np) .unset) w λξ o w=>K (KO o) w) F.sup
end
noncomputable def fS(G:List Int):Nat→Cl:=Nat.rec (λξ ξ ξ ξ=>False) λξ C=>gR G C
inductive Pz(P K:List V→Out→W→Prop):Prop | mk (ρ:List V) (o:Out) (w:W):P ρ o w→K ρ o w→Pz P K
inductive WX(P K:List V→W→Prop):Prop | mk (ρ:List V) (w:W):P ρ w→K ρ w→WX P K
section
variable(G:List Int)
noncomputable def hA(q:Nat)(t:Tg)(f:SA):Prop:=∀d ρ w K,f d ρ w K→WX (λρ1 w1=>(∀X,jE G X→AsT X q t d ρ w ρ1 w1)∧(∀i,MB t=some i→ρ1=ρ.set i d∧w1=w)∧zD t ρ d ρ1 w w1) K
noncomputable def hAs(q:Nat)(ts:Tgs)(f:SAs):Prop:=∀ds ρ w K,f ds ρ w K→WX (λρ1 w1=>(∀X,jE G X→yK X q ts ds ρ w ρ1 w1)∧(∀is,zL ts=some is→ds.length=is.length∧ρ1=wA ρ is ds∧w1=w)) K
noncomputable def hS(q:Nat)(t:St)(f:SS):Prop:=∀ρ w K,f ρ w K→Pz (λρ1 o w1=>∀X,jE G X→St1 X q t ρ w ρ1 o w1) K
noncomputable def hB(q:Nat)(t:Bk)(f:SS):Prop:=∀ρ w K,f ρ w K→Pz (λρ1 o w1=>∀X,jE G X→Sts X q t ρ w ρ1 o w1) K
end
section
variable{q:Nat}{G:List Int}{C:Cl}
theorem jZ(ho:hO G q C):∀e,hE G (q+1) e (evW G C e):=Ex.rec (motive_1:=λe=>hE G (q+1) e (evW G C e)) (motive_2:=λe=>hL G (q+1) e (Oh G C e)) (motive_3:=λe=>hC G (q+1) e (Dz G C e)) (motive_4:=λe=>hCs G (q+1) e (Su G C e)) (motive_5:=λe=>hI G (q+1) e (itW G C e))
 Yi Yq Ym YY YW (λo ξ ξ=>Yr o) (λξ=>Yj) (λξ ξ=>Th) (λξ o ξ=>Yo o) (λξ ξ ξ=>Yl) (λξ=>YX) (λξ=>Yk) Tc (λξ ξ=>Ta) (λξ ξ=>Yn) (λξ ξ=>OJ) (λξ ξ=>YZ) (λξ f=>Tf f)
 (λk ξ=>Td ho k) (λξ=>JC) (λξ=>JB) (λξ m ξ=>TY ho m) (λξ ξ ξ=>TZ) (λξ k ξ ξ=>OQ k) (λξ k ξ k2 ξ=>OP k k2) VY (λξ ξ=>ON) (λξ=>Yh) (λo ξ=>Yp o) (λξ o ξ=>TX o) (λξ o ξ o2 ξ=>OI o o2) (λξ=>TW) Gk (λξ ξ=>JD)
 (λξ=>OM) (λξ ξ=>OL) (λξ ξ ξ=>VU) (λξ=>hOf)
theorem SG(ho:hO G q C):∀es,hL G (q+1) es (Oh G C es):=λes=>Exs.rec (motive_1:=λe=>True) (motive_2:=λe=>hL G (q+1) e (Oh G C e)) (motive_3:=λe=>True) (motive_4:=λe=>True) (motive_5:=λe=>True)
 trivial (λξ=>trivial) (λξ=>trivial) (λξ=>trivial) (λξ=>trivial) (λξ ξ ξ ξ ξ=>trivial) (λξ ξ=>trivial) (λξ ξ ξ ξ=>trivial) (λξ ξ ξ ξ ξ=>trivial) (λξ ξ ξ ξ ξ ξ=>trivial) (λξ ξ=>trivial) (λξ ξ=>trivial) trivial (λξ ξ ξ ξ=>trivial) (λξ ξ ξ ξ=>trivial) (λξ ξ ξ ξ=>trivial) (λξ ξ ξ ξ=>trivial) (λξ ξ ξ=>trivial)
 (λξ ξ ξ=>trivial) (λξ ξ=>trivial) (λξ ξ=>trivial) (λξ ξ ξ ξ ξ=>trivial) (λξ ξ ξ ξ ξ ξ=>trivial) (λξ ξ ξ ξ ξ ξ ξ=>trivial) (λξ ξ ξ ξ ξ ξ ξ ξ=>trivial) VY (λe es ξ hs=>ON (jZ ho e) hs) (λξ ξ=>trivial) (λξ ξ ξ=>trivial) (λξ ξ ξ ξ ξ=>trivial) (λξ ξ ξ ξ ξ ξ ξ ξ=>trivial) (λξ ξ=>trivial) trivial (λξ ξ ξ ξ=>trivial)
 (λξ ξ=>trivial) (λξ ξ ξ ξ=>trivial) (λξ ξ ξ ξ ξ ξ=>trivial) (λξ ξ=>trivial) es
theorem Hs(ho:hO G q C):∀e,hC G (q+1) e (Dz G C e):=Ce.rec (motive_1:=λe=>hE G (q+1) e (evW G C e)) (motive_2:=λe=>hL G (q+1) e (Oh G C e)) (motive_3:=λe=>hC G (q+1) e (Dz G C e)) (motive_4:=λe=>hCs G (q+1) e (Su G C e)) (motive_5:=λe=>hI G (q+1) e (itW G C e))
 Yi Yq Ym YY YW (λo ξ ξ=>Yr o) (λξ=>Yj) (λξ ξ=>Th) (λξ o ξ=>Yo o) (λξ ξ ξ=>Yl) (λξ=>YX) (λξ=>Yk) Tc (λξ ξ=>Ta) (λξ ξ=>Yn) (λξ ξ=>OJ) (λξ ξ=>YZ) (λξ f=>Tf f)
 (λk ξ=>Td ho k) (λξ=>JC) (λξ=>JB) (λξ m ξ=>TY ho m) (λξ ξ ξ=>TZ) (λξ k ξ ξ=>OQ k) (λξ k ξ k2 ξ=>OP k k2) VY (λξ ξ=>ON) (λξ=>Yh) (λo ξ=>Yp o) (λξ o ξ=>TX o) (λξ o ξ o2 ξ=>OI o o2) (λξ=>TW) Gk (λξ ξ=>JD)
 (λξ=>OM) (λξ ξ=>OL) (λξ ξ ξ=>VU) (λξ=>hOf)
theorem VP(ho:hO G q C):∀e,hI G (q+1) e (itW G C e):=λe=>by
 cases e with
 |rng1 a=>exact OM (jZ ho a)
 |rng2 a b=>exact OL (jZ ho a) (jZ ho b)
 |zip a b c=>exact VU (jZ ho a) (jZ ho b) (jZ ho c)
 |of a=>exact hOf (jZ ho a)
variable{o i:Ex}{fo fi:SE}
theorem Yt(i:Nat):hA G q (.var i) (WA i):=λd ρ w K h=>⟨_,_,⟨λX Kn=>.var,λj e=>(Option.some.inj e)▸⟨rfl,rfl⟩,λξ ξ e=>absurd (congrArg lI e) bC⟩,h⟩
theorem Vb(f:Nat)(h1:hE G q o fo):hA G q (.attr o f) (Pc fo f):=λd ρ w K h=>(h1 _ _ _ h).casesOn λx w1 h1 h=>(fX h).casesOn λw2 e h=>⟨_,_,⟨λX Kn=>.attr Kn.toKnown0 (h1 X Kn).1 e,λj e=>(nomatch e),λξ ξ e=>absurd (congrArg lI e) bC⟩,h⟩
theorem Yw(h1:hE G q o fo)(h2:hE G q i fi):hA G q (.idx o i) (WD fo fi):=λd ρ w K h=>(h1 _ _ _ h).casesOn λx w1 h1 h=>(h2 _ _ _ h).casesOn λy w2 h2 h=>(fX h).casesOn λw3 e h=>⟨_,_,⟨λX Kn=>.idx (h1 X Kn).1 (h2 X Kn).1 (Sto.ok e),λj e=>(nomatch e),λξ ξ e=>absurd (congrArg lI e) bC⟩,h⟩
theorem Yu(ts:Tgs){f:SAs}(h1:hAs G q ts f):hA G q (.tup ts) (WB (BW ts) f):=λd ρ w K h=>(fX h).casesOn λds e h=>(h1 _ _ _ _ (vM h).2).casesOn λρ1 w1 z h'=>by
 obtain rfl:=pF e
 exact⟨_,_,⟨λX Kn=>.tup (Nat.eq_of_beq_eq_true (vM h).1) (z.1 X Kn),λj e=>(nomatch e),λts' is e1 e2=>by cases e1;exact⟨ds,rfl,z.2 is e2⟩⟩,h'⟩
theorem Yv:hAs G q .nil WC:=λds ρ w K h=>by
 cases ds with
 |nil=>exact⟨_,_,⟨λX Kn=>.nil,λis e=>by cases e;exact⟨rfl,rfl,rfl⟩⟩,h⟩
 |cons=>exact h.elim
theorem Va(t:Tg)(ts:Tgs){f:SA}{fs:SAs}(h1:hA G q t f)(h2:hAs G q ts fs):hAs G q (.cons t ts) (Pb f fs):=λds ρ w K h=>by
 cases ds with
 |nil=>exact h.elim
 |cons d ds=>exact(h1 _ _ _ _ h).casesOn λρ1 w1 z1 h=>(h2 _ _ _ _ h).casesOn λρ2 w2 z2 h=>⟨_,_,⟨λX Kn=>.cons (z1.1 X Kn) (z2.1 X Kn),λis e=>by
   obtain⟨j,e1,e⟩:=mR (show((MB t).bind λi=>(zL ts).map (i::·))=some is from e)
   obtain⟨js,e2,rfl⟩:=AI e
   obtain⟨rfl,rfl⟩:=z1.2.1 _ e1
   obtain⟨x1,rfl,rfl⟩:=z2.2 _ e2
   exact⟨congrArg (· + 1) x1,rfl,rfl⟩⟩,h⟩
theorem JT(ho:hO G q C):∀t,hA G (q+1) t (BL G C t):=Tg.rec (motive_1:=λt=>hA G (q+1) t (BL G C t)) (motive_2:=λt=>hAs G (q+1) t (ZW G C t)) Yt (λo f=>Vb f (jZ ho o)) (λo i=>Yw (jZ ho o) (jZ ho i)) (λts=>Yu ts) Yv (λt ts=>Va t ts)
variable{e c:Ex}{fe fc:SE}{t:Tg}{ft:SA}{ce:Ce}{fce:SC}{a b:Bk}{fa fb:SS}{s:St}{fs:SS}
theorem VX(h1:hE G q e fe):hS G q (.expr e) (GQ fe):=λρ w K h=>(h1 _ _ _ h).casesOn λx w1 h1 h=>⟨_,_,_,λX Kn=>.expr (h1 X Kn).1,h⟩
theorem Yc(h1:hE G q e fe):hS G q (.ret e) (Mg fe):=λρ w K h=>(h1 _ _ _ h).casesOn λx w1 h1 h=>⟨_,_,_,λX Kn=>.ret (h1 X Kn).1,h⟩
theorem VV:hS G q .retn GO:=λρ w K h=>⟨_,_,_,λX Kn=>.retn,h⟩
theorem Yg(h1:hE G q e fe)(h2:hA G q t ft):hS G q (.asg t e) (Ml ft fe):=λρ w K h=>(h1 _ _ _ h).casesOn λd w1 h1 h=>(h2 _ _ _ _ h).casesOn λρ2 w2 z h=>⟨_,_,_,λX Kn=>.asg (h1 X Kn).1 (h1 X Kn).2 (z.1 X Kn) z.2.2,h⟩
theorem Ye(op:Operator)(h1:hE G q o fo)(h2:hE G q i fi)(h3:hE G q e fe):hS G q (.aug o i op e) (Mk fo fi op fe):=λρ w K h=>(h1 _ _ _ h).casesOn λx w1 h1 h=>(h2 _ _ _ h).casesOn λy w2 h2 h=>(fX h).casesOn λm e1 h =>
 (h3 _ _ _ h).casesOn λz w3 h3 h=>(fX h).casesOn λn e2 h=>(fX (vM h).2).casesOn λw4 e3 h'=>by
 obtain⟨u,e4,e5⟩:=mR e1
 rw[hU e5] at e4
 exact⟨_,_,_,λX Kn=>.aug (h1 X Kn).1 (h2 X Kn).1 (Itm.ok e4) (hU e2▸(h3 X Kn).1) (of_decide_eq_true (vM h).1) (Sto.ok e3),h'⟩
theorem Yd(hc:hC G q ce fce)(h1:hB G q a fa)(h2:hB G q b fb):hS G q (.ite ce a b) (Mh fce fa fb):=λρ w K h=>(hc _ _ _ h).casesOn λt w1 h3 h=>(mD h).elim
 (λz=>(h1 _ _ _ z.2).casesOn λρ2 o w2 h4 h=>⟨_,_,_,λX Kn=>.ite (h3 X Kn) (by rw[z.1];exact h4 X Kn),h⟩)
 λz=>(h2 _ _ _ z.2).casesOn λρ2 o w2 h4 h=>⟨_,_,_,λX Kn=>.ite (h3 X Kn) (by rw[z.1];exact h4 X Kn),h⟩
theorem Wk(hc:hC G q ce fce)(h1:hB G q a fa):∀(n:Nat) (ρ:List V) (w:W) (K:List V→Out→W→Prop),whW fce fa n ρ w K→Pz (λρ1 o w1=>∀X,jE G X→WhR X q ce a ρ w ρ1 o w1) K:=
 Nat.rec (λρ w K h=>h.elim) λn ih ρ w K h=>(hc _ _ _ h).casesOn λt w1 h2 h=>by
  rcases mD h with⟨rfl,h⟩ | ⟨rfl,h⟩
  ·refine(h1 _ _ _ h).casesOn λρ2 o w2 h3 h=>?_
   cases o with
   |go=>exact(ih _ _ _ h).casesOn λρ3 o w3 h4 h=>⟨_,_,_,λX Kn=>.go (h2 X Kn) (h3 X Kn) (h4 X Kn),h⟩
   |ret d=>exact⟨_,_,_,λX Kn=>.ret (h2 X Kn) (h3 X Kn),h⟩
  ·exact⟨_,_,_,λX Kn=>.stop (h2 X Kn),h⟩
theorem Yb(hc:hC G q ce fce)(h1:hB G q a fa):hS G q (.whl ce a) (Me fce fa):=λρ w K h=>h.elim λn h=>(Wk hc h1 _ _ _ _ h).casesOn λρ1 o w1 h2 h=>⟨_,_,_,λX Kn=>.whl (h2 X Kn),h⟩
theorem Vd(ht:hA G q t ft)(h1:hB G q a fa):∀(n:Nat) (it:It) (ρ:List V) (w:W) (K:List V→Out→W→Prop),yE (lI t) ft fa n it ρ w K→Pz (λρ1 o w1=>∀X,jE G X→vT X q t a it ρ w ρ1 o w1) K:=
 Nat.rec (λit ρ w K h=>h.elim) λn ih it ρ w K h=>by
  have hz:xI it t=true:=(vM h).1
  refine(fX (vM h).2).casesOn λres e h=>?_
  cases res with
  |none=>exact⟨_,_,_,λX Kn=>.stop hz e,h⟩
  |some p =>
   refine(ht _ _ _ _ h).casesOn λρ1 w1 z h=>(h1 _ _ _ h).casesOn λρ2 o w2 h3 h=>?_
   cases o with
   |go=>exact(ih _ _ _ _ h).casesOn λρ3 o w3 h4 h=>⟨_,_,_,λX Kn=>.go hz e (z.1 X Kn) (h3 X Kn) (h4 X Kn),h⟩
   |ret d=>exact⟨_,_,_,λX Kn=>.ret hz e (z.1 X Kn) (h3 X Kn),h⟩
variable{it:Ie}{fit:SI}
theorem VW(ht:hA G q t ft)(hi:hI G q it fit)(h1:hB G q a fa):hS G q (.fors t it a) (GP (lI t) ft fit fa):=λρ w K h=>(hi _ _ _ h).casesOn λi w1 h2 h=>h.elim λn h=>(Vd ht h1 _ _ _ _ _ h).casesOn λρ1 o w1 h3 h =>
 ⟨_,_,_,λX Kn=>.fors (h2 X Kn) λB=>h3 _ (Kn.with B),h⟩
theorem Ys:hB G q .nil PD:=λρ w K h=>⟨_,_,_,λX Kn=>.nil,h⟩
theorem VZ(h1:hS G q s fs)(h2:hB G q b fb):hB G q (.cons s b) (Dc fs fb):=λρ w K h=>(h1 _ _ _ h).casesOn λρ1 o w1 h3 h=>by
 cases o with
 |go=>exact(h2 _ _ _ h).casesOn λρ2 o w2 h4 h=>⟨_,_,_,λX Kn=>.go (h3 X Kn) (h4 X Kn),h⟩
 |ret d=>exact⟨_,_,_,λX Kn=>.ret (h3 X Kn),h⟩
theorem PB(ho:hO G q C):∀b,hB G (q+1) b (bkW G C b):=Bk.rec (motive_1:=λs=>hS G (q+1) s (stW G C s)) (motive_2:=λs=>hB G (q+1) s (bkW G C s)) (λe=>VX (jZ ho e)) (λe=>Yc (jZ ho e)) VV (λt e=>Yg (jZ ho e) (JT ho t))
 (λo i op e=>Ye op (jZ ho o) (jZ ho i) (jZ ho e)) (λc ξ ξ=>Yd (Hs ho c)) (λc ξ=>Yb (Hs ho c)) (λt it ξ=>VW (JT ho t) (VP ho it)) Ys (λξ ξ=>VZ)
theorem Ud(ho:hO G q C):hO G (q+2) (gR G C):=λF ds w K h=>by
 unfold gR at h
 cases e:F.sup with
 |none =>
  rw[e] at h
  exact(PB ho _ _ _ _ h.2).casesOn λρ1 o w1 h1 h2=>⟨_,_,λX Kn f hf=>(by
   rcases hf with⟨fd,body,ok,p1,p2,p3⟩ | ⟨fd,body,c,cda,ar,file,es,ok,io,p3⟩
   ·exact .fn ok p3 p1 p2 h.1 (h1 X Kn)
   ·rw[e] at p3;cases p3),h2⟩
 |some es =>
  rw[e] at h
  obtain⟨⟨hl,n,r,rfl⟩,h⟩:=h
  exact(SG ho _ _ _ _ h).casesOn λus w1 h1 h=>(ho _ _ _ _ h).casesOn λd w2 h2 h=>(PB ho _ _ _ _ h.2).casesOn λρ1 o w3 h3 hk=>⟨_,_,λX Kn f hf=>(by
   rcases hf with⟨fd,body,ok,p1,p2,p3⟩ | ⟨fd,body,c,cda,ar,file,es',ok,io,p3⟩
   ·rw[e] at p3;cases p3
   ·rw[e] at p3;cases p3
    exact .init Kn.toKnownN ok io e hl (h1 X Kn) (λpf hp=>(h.1▸h2 X Kn pf (.inl hp)).up) (h3 X Kn)),hk⟩
theorem PA:∀n,hO G (2*n) (fS G n):=Nat.rec (λF ds w K h=>h.elim) λn ih=>Ud ih
end
end
section
open PySem PySem.W
set_option genInjectivity false
theorem ok{α:Type}{o:Option α}{x:α}{K:α→Prop}(h:o=some x)(k:K x):Option.rec (motive:=λξ=>Prop) False K o:=by rw[h];exact k
theorem bT{b:Bool}{T F:Prop}(h:b=true)(k:T):Bool.rec (motive:=λξ=>Prop) F T b:=by rw[h];exact k
theorem bF{b:Bool}{T F:Prop}(h:b=false)(k:F):Bool.rec (motive:=λξ=>Prop) F T b:=by rw[h];exact k
theorem bB{b:Bool}{T F:Prop}(t:b=true→T)(f:b=false→F):Bool.rec (motive:=λξ=>Prop) F T b:=by
 cases b with
 |true=>exact t rfl
 |false=>exact f rfl
structure At(w:W)(n:Nat)(c:hW):Prop where
 lt:n<w.next
 get:w.get n=some c
structure Fm(M:Nat→Prop)(w w':W):Prop where
 next:w.next≤w'.next
 keep:∀n c,¬M n→At w n c→At w' n c
noncomputable abbrev Fm0:=Fm λξ=>False
section
variable{w w' w'':W}{M M':Nat→Prop}{n m:Nat}{c d:hW}
theorem At.add(h:At w n c)(d:hW):At (w.add d) n c:=⟨bD h.lt,(if_neg (bG h.lt)).trans h.get⟩
theorem At.new(w:W)(c:hW):At (w.add c) w.next c:=⟨cV _,if_pos rfl⟩
theorem At.set(h:At w n c)(q:n≠m)(d:hW):At (w.set m d) n c:=⟨h.lt,(if_neg q).trans h.get⟩
theorem At.put(h:At w n c)(d:hW):At (w.set n d) n d:=⟨h.lt,if_pos rfl⟩
theorem At.cast{a b:List V}(h:At w n (.list a))(e:a=b):At w n (.list b):=e▸h
theorem At.eq(h:At w n c)(k:At w n d):c=d:=Option.some.inj (h.get.symm.trans k.get)
theorem Fm.refl:Fm M w w:=⟨aO _,λξ ξ ξ h=>h⟩
theorem Fm.trans(a:Fm M w w')(b:Fm M w' w''):Fm M w w'':=⟨aE a.next b.next,λn c q h=>b.keep n c q (a.keep n c q h)⟩
theorem Fm.weak(a:Fm M w w')(h:∀n,M n→M' n):Fm M' w w':=⟨a.next,λn c q k=>a.keep n c (λz=>q (h n z)) k⟩
theorem Fm.up(a:Fm0 w w'):Fm M w w':=a.weak λξ h=>h.elim
theorem Fm.add(a:Fm M w w')(c:hW):Fm M w (w'.add c):=⟨dN a.next,λn d q h=>(a.keep n d q h).add c⟩
theorem Fm.set(a:Fm M w w')(h:M n∨w.next≤n)(c:hW):Fm M w (w'.set n c):=⟨a.next,λm d q k=>(a.keep m d q k).set (λe=>by subst e;exact h.elim q λz=>eF.mpr k.lt z) c⟩
theorem Fm.at(a:Fm0 w w')(h:At w n c):At w' n c:=a.keep n c (λq=>q) h
end
section
variable{w:W}{n:Nat}{ds:List V}{d:V}
theorem fQ(h:At w n (.list ds)):iS w (.ref n)=some ds:=by
 show((w.get n).bind pJ)=some ds
 rw[h.get];rfl
theorem pN{i:Nat}(h:ds[i]?=some d):jF w (.tup ds) (.int i)=some d:=by
 obtain⟨hi,e⟩:=aB.mp h
 show((seqIndex? (i:Int) ds.length).bind λj=>ds[j]?)=some d
 rw[tO (bU i) (cH.mpr hi),cE,dO];exact h
theorem fY{i:Nat}(hn:At w n (.list ds))(h:ds[i]?=some d):jF w (.ref n) (.int i)=some d:=by
 obtain⟨hi,e⟩:=aB.mp h
 show((w.get n).bind λc=>FK c i)=some d
 rw[hn.get]
 show((seqIndex? (i:Int) ds.length).bind λj=>ds[j]?)=some d
 rw[tO (bU i) (cH.mpr hi),cE,dO];exact h
theorem Xo{n:Nat}(h:0<n):-(n:Int)≤-1∧(-1+(n:Int)).toNat=n-1:=by
 obtain⟨m,rfl⟩:=Nat.exists_eq_succ_of_ne_zero (cP h)
 exact⟨Int.neg_le_neg (dP.mpr h),by rw[Int.natCast_succ,Int.add_comm,Int.add_neg_cancel_right];rfl⟩
theorem BI:jF w (.tup (ds++[d])) (.int (-1))=some d:=by
 show((seqIndex? (-1:Int) (ds++[d]).length).bind λj=>(ds++[d])[j]?)=some d
 rw[tN (by decide) (by rw[aD,bI];exact cH.mpr (Nat.succ_le_succ (dP.mp (Int.NonNeg.mk (ds.length+0))))),cE,aD]
 have:(-1+((ds.length + [d].length:Nat):Int)).toNat=ds.length:=by simp;simp_all +arith
 rw[this];simp
end
noncomputable def Giv(J:W→Prop)(it:Nat→It)(ds:List V):Prop:=∀j w,J w→mK (it j)=false∧kU (it j) w=some (ds[j]?.map λd=>(d,it (j+1)))
theorem Giv.tup(J:W→Prop)(ds:List V):Giv J (λj=>.tup ds j) ds:=λj w ξ=>⟨rfl,rfl⟩
theorem Giv.cell{J:W→Prop}{n:Nat}{ds:List V}(h:∀w,J w→At w n (.list ds)):Giv J (λj=>.cell n j) ds:=λj w q=>⟨rfl,by
 show((w.get n).bind λc=>(pJ c).map λds=>ds[j]?.map λd=>(d,It.cell n (j+1)))=_
 rw[(h w q).get];rfl⟩
noncomputable def kN(a:Int)(m:Nat):List Int:=(aX m).map λk=>a+(k:Nat)
theorem Mm(a:Int)(m j:Nat):(kN a m)[j]?=if j<m then some (a+j) else none:=by
 unfold kN
 rw[aK]
 by_cases h:j<m
 ·rw[cI h,if_pos h];rfl
 ·rw[bN (by rw[aP];exact dM.mp h),if_neg h];rfl
theorem kM(a:Int)(m:Nat):(kN a m).length=m:=by unfold kN;rw[aA,aP]
noncomputable def lP(a:Int)(m:Nat)(j:Nat):It:=Nat.casesOn j (.rng a m) λi=>.rng (a+((i+1:Nat):Int)) (m-(i+1))
theorem EW(a:Int)(m j:Nat):lP a m j=.rng (a+(j:Nat)) (m-j):=by
 cases j with
 |zero=>show It.rng a m=_;simp
 |succ i=>rfl
theorem Giv.rng(J:W→Prop)(a:Int)(m:Nat):Giv J (lP a m) ((kN a m).map .int):=λj w ξ=>by
 rw[EW,EW]
 refine⟨rfl,?_⟩
 rw[aK,Mm]
 show some (Nat.casesOn (motive:=λξ=>Option (V×It)) (m-j) none λk=>some (.int (a+(j:Nat)),.rng (a+(j:Nat)+1) k))=_
 by_cases h:j<m
 ·obtain⟨k,e⟩:=Nat.exists_eq_succ_of_ne_zero (Nat.sub_ne_zero_of_lt h)
  rw[if_pos h,e]
  have e2:m-(j+1)=k:=by rw[Nat.sub_succ,e];rfl
  have e3:a+((j+1:Nat):Int)=a+(j:Nat)+1:=(Int.add_assoc a j 1).symm
  simp only[eE,e2,e3]
 ·rw[if_neg h,show m-j=0 from Nat.sub_eq_zero_of_le (dM.mp h)];rfl
theorem Ve{tg:Bool}{t:SA}{b:SS}{it:Nat→It}{ds:List V}{J:W→Prop}{K:List V→Out→W→Prop}(S:Giv J it ds)(I:Nat→List V→W→Prop)(hJ:∀j ρ w,I j ρ w→J w)(step:∀j d,ds[j]?=some d→∀ρ w,I j ρ w→∀R:List V→W→Prop,(∀ρ w,I (j+1) ρ w→R ρ w)→t d ρ w λρ w=>b ρ w λρ o w=>Cw o (R ρ w) λd=>K ρ (.ret d) w)(stop:∀ρ w,I ds.length ρ w→K ρ .go w)(k:Nat):∀(j:Nat),j+k=ds.length→∀ρ w,I j ρ w→yE tg t b (k+1) (it j) ρ w K:=by
 induction k with
 |zero =>
  intro j e ρ w h
  obtain rfl:j=ds.length:=e
  have s:=S ds.length w (hJ _ _ _ h)
  exact bT (by rw[s.1];rfl) (ok (s.2.trans (by rw[bN (aO _),Option.map_none])) (stop _ _ h))
 |succ k ih =>
  intro j e ρ w h
  have hlt:j<ds.length:=e▸fD (fM k)
  have s:=S j w (hJ _ _ _ h)
  refine bT (by rw[s.1];rfl) (ok (s.2.trans (by rw[aC hlt,eE])) ?_)
  exact step j _ (aC hlt) ρ w h _ λρ w h=>ih (j+1) ((eK j k).trans e) ρ w h
theorem DS{tg:Bool}{t:SA}{b:SS}{it:Nat→It}{ds:List V}{J:W→Prop}{K:List V→Out→W→Prop}(S:Giv J it ds)(I:Nat→List V→W→Prop)(hJ:∀j ρ w,I j ρ w→J w)(step:∀j d,ds[j]?=some d→∀ρ w,I j ρ w→∀R:List V→W→Prop,(∀ρ w,I (j+1) ρ w→R ρ w)→t d ρ w λρ w=>b ρ w λρ o w=>Cw o (R ρ w) λd=>K ρ (.ret d) w)(stop:∀ρ w,I ds.length ρ w→K ρ .go w){ρ:List V}{w:W}(h:I 0 ρ w):∃n,yE tg t b n (it 0) ρ w K:=⟨_,Ve S I hJ step stop _ 0 (eJ _) ρ w h⟩
theorem nZ{α:Type}{tg:Bool}{t:SA}{b:SS}{it:Nat→It}{xs:List α}{enc:α→V}{J:W→Prop}{K:List V→Out→W→Prop}(S:Giv J it (xs.map enc))(I:Nat→List V→W→Prop)(hJ:∀j ρ w,I j ρ w→J w){ρ:List V}{w:W}(h:I 0 ρ w)(stop:∀ρ w,I xs.length ρ w→K ρ .go w)(step:∀j x,xs[j]?=some x→∀ρ w,I j ρ w→∀R:List V→W→Prop,(∀ρ w,I (j+1) ρ w→R ρ w)→t (enc x) ρ w λρ w=>b ρ w λρ o w=>Cw o (R ρ w) λd=>K ρ (.ret d) w):∃n,yE tg t b n (it 0) ρ w K:=
 DS S I hJ (λj d hd=>by
  rw[aK] at hd
  obtain⟨x,hx,rfl⟩:=AI hd
  exact step j x hx) (by rw[aA];exact stop) h
theorem mH{α:Type}{l:List α}{a x:α}{i:Nat}(h:(l++[a])[i]?=some x)(q:¬i<l.length):i=l.length:=eV (eG (by have:=(aB.mp h).1;rwa [aD,bI] at this)) (dM.mp q)
theorem aAa{n m:Nat}(h:n≤m)(d:m<100000:=by decide):n<lim:=aQ h d
theorem aAm{n m:Nat}(h:n<m)(d:m≤100000:=by decide):0+n≤lim:=(eJ n).symm▸aE (bW h) d
theorem tH{c:SC}{b:SS}{ρ:List V}{w:W}{K:List V→Out→W→Prop}(h:∀K':List V→Out→W→Prop,(∀ρ o w,K ρ o w→K' ρ o w)→∃n,whW c b n ρ w K'):∃n,whW c b n ρ w K:=h K λξ ξ ξ x=>x
theorem Rk{tg:Bool}{t:SA}{b:SS}{i:It}{ρ:List V}{w:W}{K:List V→Out→W→Prop}(h:∀K':List V→Out→W→Prop,(∀ρ o w,K ρ o w→K' ρ o w)→∃n,yE tg t b n i ρ w K'):∃n,yE tg t b n i ρ w K:=h K λξ ξ ξ x=>x
theorem iD{α:Type}{tg:Bool}{t:SA}{b:SS}{it:Nat→It}{xs:List α}{enc:α→V}{J:W→Prop}{K:List V→Out→W→Prop}(S:Giv J it (xs.map enc))(I:Nat→List V→W→Prop)(hJ:∀j ρ w,I j ρ w→J w){ρ:List V}{w:W}(h:I 0 ρ w)(stop:∀ρ w,I xs.length ρ w→K ρ .go w)(step:∀j x,xs[j]?=some x→∀ρ w,I j ρ w→∀K2:List V→Out→W→Prop,(∀ρ w,I (j+1) ρ w→K2 ρ .go w)→t (enc x) ρ w λρ w=>b ρ w K2):∃n,yE tg t b n (it 0) ρ w K:=
 nZ S I hJ h stop λj x hx ρ w q R hR=>step j x hx ρ w q _ hR
theorem SN{elt:SE}{k:Nat}{cs:SCs}{it:Nat→It}{ds:List V}{J:W→Prop}{ρ:List V}{K:List V→W→Prop}(S:Giv J it ds)(I:Nat→List V→W→Prop)(hJ:∀j acc w,I j acc w→J w)(step:∀j d,ds[j]?=some d→∀acc w,I j acc w→∀R:List V→W→Prop,(∀acc w,I (j+1) acc w→R acc w)→oK (yB k d) λown=>cs .And (ρ++own) w λb w=>bK b (elt (ρ++own) w λx w=>acc.length<lim∧R (acc++[x]) w) (R acc w))(stop:∀acc w,I ds.length acc w→K acc w)(m:Nat):∀(j:Nat),j+m=ds.length→∀acc w,I j acc w→xW elt k cs (m+1) (it j) ρ acc w K:=by
 induction m with
 |zero =>
  intro j e acc w h
  obtain rfl:j=ds.length:=e
  have s:=S ds.length w (hJ _ _ _ h)
  exact bF s.1 (ok (s.2.trans (by rw[bN (aO _),Option.map_none])) (stop _ _ h))
 |succ m ih =>
  intro j e acc w h
  have hlt:j<ds.length:=e▸fD (fM m)
  have s:=S j w (hJ _ _ _ h)
  exact bF s.1 (ok (s.2.trans (by rw[aC hlt,eE])) (step j _ (aC hlt) acc w h _ λacc w h=>ih (j+1) ((eK j m).trans e) acc w h))
theorem rQ{elt:SE}{k:Nat}{cs:SCs}{it:Nat→It}{ds:List V}{J:W→Prop}{ρ:List V}{K:List V→W→Prop}(S:Giv J it ds)(I:Nat→List V→W→Prop)(hJ:∀j acc w,I j acc w→J w)(step:∀j d,ds[j]?=some d→∀acc w,I j acc w→∀R:List V→W→Prop,(∀acc w,I (j+1) acc w→R acc w)→oK (yB k d) λown=>cs .And (ρ++own) w λb w=>bK b (elt (ρ++own) w λx w=>acc.length<lim∧R (acc++[x]) w) (R acc w))(stop:∀acc w,I ds.length acc w→K acc w){acc:List V}{w:W}(h:I 0 acc w):∃n,xW elt k cs n (it 0) ρ acc w K:=⟨_,SN S I hJ step stop _ 0 (eJ _) acc w h⟩
theorem gM{α:Type}{elt:SE}{k:Nat}{cs:SCs}{it:Nat→It}{ρ:List V}{w₀:W}{K:List V→W→Prop}{acc:List V}(xs:List α)(enc:α→V)(S:Giv (Fm0 w₀) it (xs.map enc))(p:α→Bool)(f:α→V)(own:α→List V)(ho:∀x∈xs,yB k (enc x)=some (own x))(hl:acc.length+xs.length≤lim)(step:∀x∈xs,∀w,Fm0 w₀ w→∀(T:Kv) (F:W→Prop),(∀w',Fm0 w w'→p x=true→T (f x) w')→(∀w',Fm0 w w'→p x=false→F w')→cs .And (ρ++own x) w λb w=>bK b (elt (ρ++own x) w T) (F w))(stop:∀w,Fm0 w₀ w→K (acc++(xs.filter p).map f) w):∃n,xW elt k cs n (it 0) ρ acc w₀ K:=by
 refine rQ S (λj a w=>Fm0 w₀ w∧a=acc++((xs.take j).filter p).map f) (λξ ξ ξ h=>h.1) (λj d hd a w h R hR=>?_) (λa w h=>?_) ⟨.refl,by simp⟩
 ·rw[aK] at hd
  obtain⟨x,hx,rfl⟩:=AI hd
  have hm:x∈xs:=aF hx
  have hj:j<xs.length:=(aB.mp hx).1
  have et:xs.take (j+1)=xs.take j++[x]:=by rw[List.take_add_one,hx];rfl
  obtain⟨h1,rfl⟩:=h
  refine ok (ho x hm) (step x hm w h1 _ _ (λw' h2 e=>⟨?_,hR _ _ ⟨h1.trans h2,?_⟩⟩) λw' h2 e=>hR _ _ ⟨h1.trans h2,?_⟩)
  ·have:=bZ p (xs.take j)
   rw[aD,aA]
   rw[cS] at this
   exact aM (Nat.add_lt_add_left (aQ (aE this (Nat.min_le_left _ _)) hj) _) hl
  ·rw[et,List.filter_append,aI];simp[e]
  ·rw[et,List.filter_append,aI];simp[e]
 ·obtain⟨h1,rfl⟩:=h
  rw[aA,bM]
  exact stop w h1
theorem rR{α:Type}{elt:SE}{k:Nat}{cs:SCs}{it:Nat→It}{ρ:List V}{w₀:W}{K:List V→W→Prop}{acc:List V}(xs:List α)(enc:α→V)(S:Giv (Fm0 w₀) it (xs.map enc))(f:α→V)(own:α→List V)(ho:∀x∈xs,yB k (enc x)=some (own x))(hl:acc.length+xs.length≤lim)(step:∀x∈xs,∀w,Fm0 w₀ w→∀(T:Kv) (F:W→Prop),(∀w',Fm0 w w'→T (f x) w')→cs .And (ρ++own x) w λb w=>bK b (elt (ρ++own x) w T) (F w))(stop:∀w,Fm0 w₀ w→K (acc++xs.map f) w):∃n,xW elt k cs n (it 0) ρ acc w₀ K:=
 gM xs enc S (λξ=>true) f own ho hl (λx hx w h T F t ξ=>step x hx w h T F λw' h'=>t w' h' rfl) λw h=>by rw[fC.mpr λξ ξ=>rfl];exact stop w h
theorem UP{σ:Type}{c:SC}{b:SS}{K:List V→Out→W→Prop}(I:σ→List V→W→Prop)(m:σ→Nat)(step:∀x ρ w,I x ρ w→∀R:List V→W→Prop,(∀y ρ' w',I y ρ' w'→m y<m x→R ρ' w')→c ρ w λt w=>bK t (b ρ w λρ o w=>Cw o (R ρ w) λd=>K ρ (.ret d) w) (K ρ .go w)) :
  ∀(k:Nat) (x:σ),m x<k→∀ρ w,I x ρ w→whW c b k ρ w K:=
 Nat.rec (λx h=>absurd h (cU _)) λk ih x h ρ w hI=>step x ρ w hI _ λy ρ' w' hy lt=>ih y (by exact aE lt (eG h)) ρ' w' hy
theorem xJ{σ:Type}{c:SC}{b:SS}{K:List V→Out→W→Prop}(I:σ→List V→W→Prop)(m:σ→Nat)(step:∀x ρ w,I x ρ w→∀R:List V→W→Prop,(∀y ρ' w',I y ρ' w'→m y<m x→R ρ' w')→c ρ w λt w=>bK t (b ρ w λρ o w=>Cw o (R ρ w) λd=>K ρ (.ret d) w) (K ρ .go w))(x:σ){ρ:List V}{w:W}(h:I x ρ w):∃n,whW c b n ρ w K:=⟨_,UP I m step _ x (cV _) ρ w h⟩
theorem vC{α:Type}(f:α→Int)(l:List α):jD (l.map λx=>V.int (f x))=some (l.map f):=by
 induction l with
 |nil=>rfl
 |cons a l ih=>show((kY (.int (f a))).bind λi=>(jD (l.map λx=>V.int (f x))).map (i::·))=_;rw[ih];rfl
section
variable{w:W}{n:Nat}{ds:List V}
theorem MH{α:Type}{l:List α}{f:α→Int}(h:At w n (.list (l.map λx=>.int (f x)))):wT 4 [.ref n] w=some (.int (l.map f).sum,w):=by
 show((iS w (.ref n)).bind λds=>(jD ds).map λl=>(V.int l.sum,w))=_
 rw[fQ h,cE,vC];rfl
theorem gJ(h:At w n (.list ds)):wT 0 [.ref n] w=some (.int ds.length,w):=by
 show((iS w (.ref n)).map λds=>(V.int ds.length,w))=_
 rw[fQ h];rfl
theorem iW(h:At w n (.list ds)):wT 6 [.ref n] w=some (.tup ds,w):=by
 show((iS w (.ref n)).map λds=>(V.tup ds,w))=_
 rw[fQ h];rfl
theorem KW(h:At w n (.list ds)):wT 7 [.ref n] w=some (.ref w.next,w.add (.list ds)):=by
 show((iS w (.ref n)).map λds=>(V.ref w.next,w.add (.list ds)))=_
 rw[fQ h];rfl
theorem CY{as bs:List V}(h:(as++bs).length≤lim):Db .Add w (.tup as) (.tup bs)=some (.tup (as++bs),w):=by
 show newTup (as++bs) w=_
 unfold newTup
 rw[if_pos h]
theorem Zy(h:ds.length≤lim):newTup ds w=some (.tup ds,w):=if_pos h
theorem Ei(h:ds.length≤lim):newList ds w=some (.ref w.next,w.add (.list ds)):=if_pos h
theorem gZ{d:V}(h:At w n (.list ds))(hl:ds.length<lim):Ge n 0 ds [d] w=some (.none,w.set n (.list (ds++[d]))):=by
 unfold Ge
 rw[if_pos ⟨rfl,hl⟩];rfl
theorem fV(h:At w n (.list ds)):VQ w (.ref n)=some (.cell n 0):=by
 show(iS w (.ref n)).map _=_
 rw[fQ h];rfl
end
theorem kT(i j:Int):PyData.eqv (.int i) (.int j)=decide (i=j):=by simp[PyData.eqv,BEq.beq]
theorem eB{i j:Int}{T F:Prop}(t:i=j→T)(f:i≠j→F):Bool.rec (motive:=λξ=>Prop) F T (PyData.eqv (.int i) (.int j)):=by
 rw[kT];exact bB (λh=>t (of_decide_eq_true h)) λh=>f (of_decide_eq_false h)
theorem IC:∀a,a<6→∀b,b<6→PyData.eqv (.str (lF a)) (.str (lF b))=decide (a=b):=by decide +kernel
theorem qG{w:W}{a b:Nat}(ha:a<6)(hb:b<6):jK .Eq w (.str a) (.str b)=some (decide (a=b)):=by
 show((if a<6 then some (PyData.str (lF a)) else none).bind λp=>(if b<6 then some (PyData.str (lF b)) else none).map λq=>PyData.eqv p q)=_
 rw[if_pos ha,if_pos hb,←IC a ha b hb];rfl
theorem dB{p:Prop}[Decidable p]{T F:Prop}(t:p→T)(f:¬p→F):Bool.rec (motive:=λξ=>Prop) F T (decide p):=bB (λh=>t (of_decide_eq_true h)) λh=>f (of_decide_eq_false h)
theorem dT{p:Prop}[Decidable p]{T F:Prop}(h:p)(t:T):Bool.rec (motive:=λξ=>Prop) F T (decide p):=bT (decide_eq_true h) t
theorem dF{p:Prop}[Decidable p]{T F:Prop}(h:¬p)(f:F):Bool.rec (motive:=λξ=>Prop) F T (decide p):=bF (decide_eq_false h) f
noncomputable abbrev Dm:=List (Int×Int)
noncomputable def prV(p:Int×Int):V:=.tup [.int p.1,.int p.2]
noncomputable def dV(d:Dm):V:=.tup (d.map prV)
noncomputable def Xl(o:Option Int):V:=Option.rec .none (λi=>.int i) o
noncomputable def dUp(d:Dm)(k:Int):Dm:=(d.filter λp=>decide (p.1≤k)).map λp=>(p.1,min p.2 k)
noncomputable def Af(d:Dm)(k:Int):Dm:=(d.filter λp=>decide (k≤p.2)).map λp=>(max p.1 k,p.2)
noncomputable def JN(d:Dm):Int:=(d.map λp=>p.2-p.1+1).sum
noncomputable def rP(d:Dm)(v:Int):Option Int:=List.rec (motive:=λξ=>Option Int) none (λp ξ r=>if v≤p.2 then some (max p.1 v) else r) d
theorem Ac(p:Int×Int)(d:Dm)(v:Int):rP (p::d) v=if v≤p.2 then some (max p.1 v) else rP d v:=rfl
noncomputable def DU:Fn:=⟨1,1,none,FO⟩
noncomputable def tV:Fn:=⟨1,1,none,xR⟩
noncomputable def Od:Fn:=⟨1,1,none,Iu⟩
noncomputable def Oe:Fn:=⟨2,4,none,uU⟩
noncomputable def Tk:Fn:=⟨2,2,none,Nr⟩
noncomputable def JG:Fn:=⟨2,2,none,FM⟩
section
variable{G:List Int}{C:Cl}{w:W}{K:Kv}
theorem Qp(p:Int×Int)(d:Dm)(k:K (.int p.1) w):gR G C DU [dV (p::d)] w K:=⟨rfl,ok (pN (i:=0) rfl) k⟩
theorem GU(p:Int×Int)(d:Dm)(k:K (.int p.2) w):gR G C tV [dV (d++[p])] w K:=
 ⟨rfl,ok (show jF w (dV (d++[p])) (.int (-1))=some (prV p) by unfold dV;rw[aI];exact BI) k⟩
theorem Uk(d:Dm)(hl:d.length≤lim)(k:∀w',Fm0 w w'→K (.int (JN d)) w'):gR G C Od [dV d] w K:=
 ⟨rfl,rR d prV (Giv.tup _ _) (λp=>.int (p.2-p.1+1)) (λp=>[.int p.1,.int p.2]) (λξ ξ=>rfl) (by simpa using hl) (λp ξ w h T F t=>t _ .refl) λw' h=>ok (MH (At.new _ _)) (k _ (h.add _))⟩
theorem Uq(d:Dm)(v:Int)(k:K (Xl (rP d v)) w):gR G C Oe [dV d,.int v] w K:=by
 refine⟨rfl,DS (Giv.tup (λξ=>True) _) (λj ρ w'=>w'=w∧rP (d.drop j) v=rP d v∧∃a b,ρ=[dV d,.int v,a,b]) (λξ ξ ξ ξ=>trivial) (λj x hx ρ w' h R hR=>?_) (λρ w' h=>?_) ⟨rfl,rfl,_,_,rfl⟩⟩
 ·obtain⟨rfl,h2,a,b,rfl⟩:=h
  rw[aK] at hx
  obtain⟨p,hp,rfl⟩:=AI hx
  obtain⟨hj,rfl⟩:=aB.mp hp
  rw[eS hj] at h2
  refine dB (λq=>?_) λq=>hR _ _ ⟨rfl,?_,_,_,rfl⟩
  ·rw[Ac,if_pos q] at h2
   rw[←h2] at k;exact k
  ·rw[Ac,if_neg q] at h2;exact h2
 ·obtain⟨rfl,h2,a,b,rfl⟩:=h
  rw[aA,List.drop_length] at h2
  rw[←h2] at k;exact k
noncomputable def Dn(C:Cl):Prop:=∀d v w K,K (Xl (rP d v)) w→C Oe [dV d,.int v] w K
theorem Xe(hn:Dn C)(d:Dm)(v:Int)(k:K (.bool (decide (rP d v=some v))) w):gR G C Tk [dV d,.int v] w K:=by
 refine⟨rfl,hn _ _ _ _ ?_⟩
 cases q:rP d v with
 |none=>rw[q] at k;exact k
 |some i=>rw[q] at k;exact(show K (.bool (PyData.eqv (.int i) (.int v))) w by rw[kT];simpa using k)
theorem Qh(d:Dm)(v:Int)(hl:d.length≤lim)(k:∀w',Fm0 w w'→K (dV (dUp d v)) w'):gR G C JG [dV d,.int v] w K:=by
 refine⟨rfl,gM d prV (Giv.tup _ _) (λp=>decide (p.1≤v)) (λp=>prV (p.1,min p.2 v)) (λp=>[.int p.1,.int p.2]) (λξ ξ=>rfl) (by simpa using hl) (λp ξ w h T F t f=>?_) λw' h=>ok (iW (At.new _ _)) ?_⟩
 ·exact dB (λq=>t _ .refl (decide_eq_true q)) λq=>f _ .refl (decide_eq_false q)
 ·have:=k _ (h.add (.list ((d.filter λp=>decide (p.1≤v)).map λp=>prV (p.1,min p.2 v))))
  unfold dV dUp at this
  rw[cL] at this
  exact this
end
noncomputable def LC:Fn:=⟨2,2,none,AW⟩
noncomputable def Kx:Fn:=⟨2,2,none,AU⟩
noncomputable def Vo:Fn:=⟨2,7,none,Iv⟩
noncomputable def Gp:Fn:=⟨1,4,none,xP⟩
noncomputable def Oa:Fn:=⟨2,4,none,CD⟩
noncomputable def Ky:Fn:=⟨2,3,none,AV⟩
noncomputable def OY:Fn:=⟨1,4,none,CC⟩
noncomputable def Go:Fn:=⟨2,7,none,xO⟩
structure Dok(d:Dm):Prop where
 len:d.length≤10
 val:∀p∈d,-10≤p.1∧p.1≤10∧-10≤p.2∧p.2≤10
theorem Gg{n m:Nat}(h:n≤m)(k:m≤100000:=by decide):n≤lim:=aE h k
noncomputable abbrev Lit:=Int×Nat×Int
noncomputable def iG(l:Lit):V:=.tup [.int l.1,.str l.2.1,.int l.2.2]
noncomputable def mY(d:Dm)(k:Int):Dm:=List.rec (motive:=λξ=>Dm) [] (λp ξ r=>if p.2<k then r else if p.1≤k then[(k,k)] else[]) d
theorem Ad(p:Int×Int)(d:Dm)(k:Int):mY (p::d) k=if p.2<k then mY d k else if p.1≤k then[(k,k)] else[]:=rfl
noncomputable def Ab(d:Dm)(v:Int):Dm:=dUp d (v-1)++Af d (v+1)
noncomputable def gW(s:Nat)(k:Int)(d:Dm):Dm:=if s=0 then dUp d k else if s=1 then Af d k else if s=2 then mY d k else Ab d k
noncomputable def NF(l:Lit):Lit:=if l.2.1=0 then(l.1,1,l.2.2+1) else if l.2.1=1 then(l.1,0,l.2.2-1) else if l.2.1=2 then(l.1,3,l.2.2) else(l.1,2,l.2.2)
noncomputable def Pur(C:Cl)(F:Fn)(vs:List V)(d:V):Prop:=∀w K,(∀w',Fm0 w w'→K d w')→C F vs w K
noncomputable def aA0(C:Cl):Prop:=∀p d,Pur C DU [dV (p::d)] (.int p.1)
noncomputable def WU(C:Cl):Prop:=∀d p,Pur C tV [dV (d++[p])] (.int p.2)
noncomputable def yV(C:Cl):Prop:=∀d,Dok d→∀k,Pur C JG [dV d,.int k] (dV (dUp d k))
noncomputable def sN(C:Cl):Prop:=∀d,Dok d→∀k,Pur C LC [dV d,.int k] (dV (Af d k))
noncomputable def wZ(C:Cl):Prop:=∀d,Dok d→∀k,Pur C Kx [dV d,.int k] (dV (Ab d k))
noncomputable def Hc(C:Cl):Prop:=∀d,Dok d→∀k,Pur C Vo [dV d,dV [(k,k)]] (dV (mY d k))
noncomputable def uB(C:Cl):Prop:=∀l:Lit,l.2.1<4→Pur C Gp [iG l] (iG (NF l))
noncomputable def vR(C:Cl):Prop:=∀d,Dok d→∀l:Lit,l.2.1<4→Pur C Oa [iG l,dV d] (dV (gW l.2.1 l.2.2 d))
section
variable{G:List Int}{C:Cl}{w:W}{K:Kv}
theorem KI:sN (gR G C):=λd hd v w K k=>by
 refine⟨rfl,gM d prV (Giv.tup _ _) (λp=>decide (v≤p.2)) (λp=>prV (max p.1 v,p.2)) (λp=>[.int p.1,.int p.2]) (λξ ξ=>rfl) (by simpa using Gg hd.len) (λp ξ w h T F t f=>?_) λw' h=>ok (iW (At.new _ _)) ?_⟩
 ·exact dB (λq=>t _ .refl (decide_eq_true q)) λq=>f _ .refl (decide_eq_false q)
 ·have:=k _ (h.add (.list ((d.filter λp=>decide (v≤p.2)).map λp=>prV (max p.1 v,p.2))))
  unfold dV Af at this
  rw[cL] at this
  exact this
theorem SK(d:Dm)(k:Int):(dUp d k).length≤d.length:=by unfold dUp;rw[aA];exact bZ _ _
theorem LF(d:Dm)(k:Int):(Af d k).length≤d.length:=by unfold Af;rw[aA];exact bZ _ _
theorem wl{d:Dm}(hd:Dok d)(v:Int):((dUp d (v-1)).map prV++(Af d (v+1)).map prV).length≤20:=by
 have a:=SK d (v-1)
 have b:=LF d (v+1)
 have:=hd.len
 rw[aD,aA,aA];exact dH (aE a this) (aE b this)
theorem KC(h1:yV C)(h2:sN C):wZ (gR G C):=λd hd v w K k=>by
 refine⟨rfl,h1 d hd _ _ _ λw1 f1=>h2 d hd _ _ _ λw2 f2=>ok (CY (Gg (wl hd v))) ?_⟩
 have:=k _ (f1.trans f2)
 unfold Ab dV at this
 rw[aI] at this;exact this
theorem GT:uB (gR G C):=λl hl w K k=>by
 obtain⟨x,s,n⟩:=l
 have hs:s<6:=cO hl (by decide)
 have k:=k _ .refl
 unfold NF at k
 refine⟨rfl,ok (qG hs (by decide)) (dB (λq=>?_) λq0=>ok (qG hs (by decide)) (dB (λq=>?_) λq1=>ok (qG hs (by decide)) (dB (λq=>?_) λq2=>?_)))⟩
 ·rw[if_pos q] at k;exact k
 ·rw[if_neg q0,if_pos q] at k;exact k
 ·rw[if_neg q0,if_neg q1,if_pos q] at k;exact k
 ·rw[if_neg q0,if_neg q1,if_neg q2] at k;exact k
theorem Mw(h1:yV C)(h2:sN C)(h3:Hc C)(h4:wZ C):vR (gR G C):=λd hd l hl w K k=>by
 obtain⟨x,s,n⟩:=l
 have hs:s<6:=cO hl (by decide)
 unfold gW at k
 refine⟨rfl,ok (qG hs (by decide)) (dB (λq=>h1 d hd _ _ _ λw1 f1=>?_) λq0=>ok (qG hs (by decide)) (dB (λq=>h2 d hd _ _ _ λw1 f1=>?_) λq1=>ok (qG hs (by decide)) (dB (λq=>h3 d hd _ _ _ λw1 f1=>?_) λq2=>h4 d hd _ _ _ λw1 f1=>?_)))⟩
 ·rw[if_pos q] at k;exact k _ f1
 ·rw[if_neg q0,if_pos q] at k;exact k _ f1
 ·rw[if_neg q0,if_neg q1,if_pos q] at k;exact k _ f1
 ·rw[if_neg q0,if_neg q1,if_neg q2] at k;exact k _ f1
end
noncomputable def Rds(w:W)(k:Nat)(v:V)(p:PyData):Prop:=rd w k v=some p
section
variable{w:W}{k n:Nat}
theorem lZ(i:Int):rd w k (.int i)=some (.int i):=by cases k<;>rfl
theorem Zx(i:Bool):rd w k (.bool i)=some (.bool i):=by cases k<;>rfl
theorem Zw:rd w k .none=some .none:=by cases k<;>rfl
theorem IQ{s:Nat}(h:s<6):rd w k (.str s)=some (.str (lF s)):=by
 cases k<;>exact if_pos h
theorem uJ{α:Type}{f:V→Option PyData}{e:α→V}{g:α→PyData}(l:List α)(h:∀x∈l,f (e x)=some (g x)):rds f (l.map e)=some (l.map g):=by
 induction l with
 |nil=>rfl
 |cons a l ih =>
  show(f (e a)).bind (λp=>(rds f (l.map e)).map (p::·))=_
  rw[h a aZ,ih λx hx=>h x (bA _ hx)];rfl
theorem GR{α:Type}{e:α→V}{g:α→PyData}(l:List α)(h:∀x∈l,rd w k (e x)=some (g x)):rd w (k+1) (.tup (l.map e))=some (.tuple (l.map g)):=by
 show(rds (rd w k) (l.map e)).map PyData.tuple=_
 rw[uJ l h];rfl
theorem oQ{α:Type}{e:α→V}{g:α→PyData}(l:List α)(hn:At w n (.list (l.map e)))(h:∀x∈l,rd w k (e x)=some (g x)):rd w (k+1) (.ref n)=some (.list (l.map g)):=by
 show((w.get n).bind λc=>hW.casesOn (motive:=λξ=>Option PyData) c (λds=>(rds (rd w k) ds).map .list) (λξ=>none) λξ=>none)=_
 rw[hn.get]
 show(rds (rd w k) (l.map e)).map PyData.list=_
 rw[uJ l h];rfl
theorem kA{α:Type}[DecidableEq α]{g:α→PyData}(hg:∀x y,PyData.eqv (g x) (g y)=decide (x=y)):∀(a b:List α),PyData.eqvAll (a.map g) (b.map g)=decide (a=b)
 |[],[]=>by simp[PyData.eqvAll]
 |[],_::_=>by simp[PyData.eqvAll]
 |_::_,[]=>by simp[PyData.eqvAll]
 |x::a,y::b=>by simp[PyData.eqvAll,hg,kA hg a b]
theorem rN{a b:V}{p q:PyData}{c:Bool}(h1:rd w 8 a=some p)(h2:rd w 8 b=some q)(h3:PyData.eqv p q=c):jK .Eq w a b=some c:=by
 show((rd w 8 a).bind λp=>(rd w 8 b).map λq=>PyData.eqv p q)=_
 rw[h1,h2,←h3];rfl
theorem uM{a b:V}{p q:PyData}{c:Bool}(h1:rd w 8 a=some p)(h2:rd w 8 b=some q)(h3:PyData.eqv p q=c):jK .NotEq w a b=some (!c):=by
 show((rd w 8 a).bind λp=>(rd w 8 b).map λq=>PyData.eqv p q).map (!·)=_
 rw[h1,h2,←h3];rfl
noncomputable def prP(p:Int×Int):PyData:=.tuple [.int p.1,.int p.2]
theorem RF(p q:Int×Int):PyData.eqv (prP p) (prP q)=decide (p=q):=by
 obtain⟨a,b⟩:=p
 obtain⟨c,d⟩:=q
 simp[prP,PyData.eqv,PyData.eqvAll,BEq.beq,Prod.ext_iff]
theorem TB(p:Int×Int):rd w (k+1) (prV p)=some (prP p):=by
 show(rds (rd w k) [.int p.1,.int p.2]).map PyData.tuple=_
 show(((rd w k (.int p.1)).bind λa=>(((rd w k (.int p.2)).bind λb=>some [b])).map (a::·))).map PyData.tuple=_
 rw[lZ,lZ];rfl
theorem Ms(d:Dm):rd w (k+2) (dV d)=some (.tuple (d.map prP)):=GR d λp ξ=>TB p
theorem Fc(a b:Dm):jK .Eq w (dV a) (dV b)=some (decide (a=b)):=rN (Ms a) (Ms b) (kA RF a b)
end
noncomputable def xA(C:Cl):Prop:=∀d,Dok d→∀l:Lit,l.2.1<4→Pur C Ky [iG l,dV d] (.int (if gW l.2.1 l.2.2 d=d then 1 else if gW l.2.1 l.2.2 d=[] then -1 else 0))
section
variable{G:List Int}{C:Cl}{w:W}{K:Kv}
theorem KD(h1:vR C):xA (gR G C):=λd hd l hl w K k=>by
 refine⟨rfl,h1 d hd l hl _ _ λw1 f1=>ok (Fc _ _) (dB (λq=>?_) λq=>ok (Fc _ []) (dB (λq2=>?_) λq2=>?_))⟩
 ·rw[if_pos q] at k;exact k _ f1
 ·rw[if_neg q,if_pos q2] at k;exact k _ f1
 ·rw[if_neg q,if_neg q2] at k;exact k _ f1
theorem Vu{d:Dm}{k:Int}{i:Nat}{p:Int×Int}(h:d[i]?=some p)(q:p.2<k):mY (d.drop (i+1)) k=mY (d.drop i) k:=by
 obtain⟨hi,rfl⟩:=aB.mp h
 rw[eS hi,Ad,if_pos q]
structure Zn(d:Dm)(k:Int)(w₀:W)(n:Nat)(x:Nat×Bool)(ρ:List V)(w:W):Prop where
 env:∃a b,ρ=[dV d,dV [(k,k)],.ref n,.int (x.1:Nat),.int (if x.2 then 1 else 0),a,b]
 fm:Fm0 w₀ w
 cell:At w n (.list ((if x.2 then mY d k else[]).map prV))
 le:x.1≤d.length
 go:x.2=false→mY (d.drop x.1) k=mY d k
theorem Ih{a b k:Int}(q:max a k≤min b k):¬b<k∧a≤k∧max a k=k∧min b k=k:=
 have h1:=aS (Int.le_max_right a k) (aS q (Int.min_le_left b k))
 have h2:=aS (Int.le_max_left a k) (aS q (Int.min_le_right b k))
 ⟨fG.mpr h1,h2,Int.max_eq_right h2,Int.min_eq_right h1⟩
theorem Xu{a b k:Int}(q:¬max a k≤min b k)(q2:¬b<k):¬a≤k:=λh=>q (Int.le_of_eq ((Int.max_eq_right h).trans (Int.min_eq_right (fG.mp q2)).symm))
theorem Us:Hc (gR G C):=λd hd k w K kk=>by
 have hl:d.length≤lim:=Gg hd.len
 have fin:∀(w':W) (n:Nat),Fm0 w w'→At w' n (.list ((mY d k).map prV))→K (dV (mY d k)) w':=λw' n h ξ=>kk _ h
 refine⟨rfl,tH λK1 hK1=>xJ (Zn d k w w.next) (λx=>d.length-x.1+(if x.2 then 0 else 1)) (λx ρ w1 h R hR=>?_) (0,false) ⟨⟨_,_,rfl⟩,Fm.refl.add _,At.new _ _,cX _,λξ=>rfl⟩⟩
 obtain⟨i,b⟩:=x
 obtain⟨⟨a1,a2,rfl⟩,f1,c1,le,go⟩:=h
 cases b with
 |true =>
  refine dB (λq=>?_) λq=>?_
  ·exact hK1 _ _ _ (ok (iW c1) (fin _ _ f1 c1))
  ·exact hK1 _ _ _ (ok (iW c1) (fin _ _ f1 c1))
 |false =>
  have le:i≤d.length:=le
  refine dB (λ(q:(i:Int)<((d.map prV).length:Int))=>?_) λ(q:¬(i:Int)<((d.map prV).length:Int))=>?_
  ·rw[aA] at q
   have hi:i<d.length:=by simp_all +arith
   obtain⟨p,hp⟩:∃p,d[i]?=some p:=⟨_,aC hi⟩
   have e1:∀w,jF w (V.tup (d.map prV)) (V.int (i:Nat))=some (prV p):=λw=>pN (by rw[aK,hp];rfl)
   have g:mY (d.drop i) k=mY d k:=go rfl
   have e2:d.drop i=p::d.drop (i+1):=by rw[eS hi];rw[aC hi] at hp;cases hp;rfl
   rw[e2,Ad] at g
   refine ok (e1 _) (ok (e1 _) (dB (λ(q1:max p.1 k≤min p.2 k)=>ok (fQ c1) (ok (fQ c1) (ok (e1 _) (dB (λ(q2:p.2<k)=>?_) λ(q2:¬p.2<k)=>?_))))
    λ(q1:¬max p.1 k≤min p.2 k)=>ok (e1 _) (dB (λ(q2:p.2<k)=>?_) λ(q2:¬p.2<k)=>?_)))
   ·exact absurd q2 (Ih q1).1
   ·rw[if_neg q2,if_pos (Ih q1).2.1] at g
    have e3:=(Ih q1).2.2.1
    have e4:=(Ih q1).2.2.2
    refine hR (i,true) _ _ ⟨⟨_,_,rfl⟩,f1.set (.inr (aO _)) _,?_,le,λh=>nomatch h⟩ (by simp)
    rw[if_pos rfl,←g]
    refine(show At (w1.set w.next (.list [prV (max p.1 k,min p.2 k)])) w.next (.list [prV (k,k)]) from ?_)
    rw[e3,e4];exact c1.put _
   ·rw[if_pos q2] at g
    exact hR (i+1,false) _ _ ⟨⟨_,_,rfl⟩,f1,c1,hi,λξ=>g⟩ (Nat.add_lt_add_right (Nat.sub_succ_lt_self _ _ hi) 1)
   ·rw[if_neg q2,if_neg (Xu q1 q2)] at g
    refine hR (i,true) _ _ ⟨⟨_,_,rfl⟩,f1,?_,le,λh=>nomatch h⟩ (by simp)
    rw[if_pos rfl,←g];exact c1
  ·rw[aA] at q
   have e:i=d.length:=eV le (dM.mp λz=>q (cH.mpr z))
   have g:mY (d.drop i) k=mY d k:=go rfl
   rw[e,List.drop_length] at g
   have c1:At w1 w.next (.list ((mY d k).map prV)):=by rw[←g];exact c1
   exact hK1 _ _ _ (ok (iW c1) (fin _ _ f1 c1))
end
noncomputable def Zj(C:Cl)(F:Fn)(vs:List V)(xs:List V):Prop:=∀w K,(∀w' n,Fm0 w w'→w.next≤n→At w' n (.list xs)→K (.ref n) w')→C F vs w K
theorem Dx(a b:Int):sR a b=(kN a (b-a).toNat).map .int:=by unfold sR kN;rw[cL];rfl
noncomputable def pW:Dm→List Int:=List.rec [] λp ξ r=>kN p.1 (p.2+1-p.1).toNat++r
theorem tX(p:Int×Int)(d:Dm):pW (p::d)=kN p.1 (p.2+1-p.1).toNat++pW d:=rfl
theorem Og{w:W}{n:Nat}{ds:List V}{i j:Int}(h:At w n (.list ds))(hs:jC i j=true)(hl:(ds++sR i j).length<lim):ZH w n (.int i) (.int j)=some (w.set n (.list (ds++sR i j))):=by
 show(((w.get n).bind pJ).bind λds=>if jC i j=true∧(ds++sR i j).length<lim then some (w.set n (.list (ds++sR i j))) else none)=_
 rw[h.get]
 exact if_pos ⟨hs,hl⟩
theorem nQ{i j:Int}(h:-1000≤i∧i≤1000∧-1000≤j∧j≤1000):jC i j=true:=decide_eq_true ⟨aS (by decide) h.1,aS h.2.1 (by decide),aS (by decide) h.2.2.1,aS h.2.2.2 (by decide)⟩
theorem qX{a b:Int}(h:-10≤a∧a≤10∧-10≤b∧b≤10):jC a (b+1)=true∧(b+1-a).toNat≤21:=
 ⟨nQ ⟨aS (by decide) h.1,aS h.2.1 (by decide),aS (by decide) (dQ h.2.2.1 1),aS (dQ h.2.2.2 1) (by decide)⟩,Ci (dQ h.2.2.2 1) h.1 (by decide)⟩
theorem yU{a b l:Int}(h:-10≤a∧a≤10∧-10≤b∧b≤10)(g:-11≤l∧l≤10):(a-(l+1)).toNat≤21∧jC (l+1) a=true∧-11≤b∧b≤10:=
 ⟨Ci h.2.1 (dQ g.1 1) (by decide),nQ ⟨aS (by decide) (dQ g.1 1),aS (dQ g.2 1) (by decide),aS (by decide) h.1,aS h.2.1 (by decide)⟩,aS (by decide) h.2.2.1,h.2.2.2⟩
theorem CI{d:Dm}(h:∀p∈d,-10≤p.1∧p.1≤10∧-10≤p.2∧p.2≤10):(pW d).length≤21*d.length:=by
 induction d with
 |nil=>exact cX _
 |cons p d ih =>
  have a:=ih λq hq=>h q (bA _ hq)
  have b:=h p aZ
  rw[tX,aD,kM,cT,Nat.mul_succ,Nat.add_comm];exact dH a (qX b).2
theorem CJ(a b:Dm):pW (a++b)=pW a++pW b:=by
 induction a with
 |nil=>rfl
 |cons p a ih=>rw[List.cons_append,tX,tX,ih,bV]
theorem gS{α:Type}{l:List α}{j:Nat}{x:α}(h:l[j]?=some x):l.take (j+1)=l.take j++[x]:=by rw[List.take_add_one,h];rfl
noncomputable def vQ(C:Cl):Prop:=∀d,Dok d→Zj C OY [dV d] ((pW d).map .int)
theorem kW{α β:Type}{f:α→β}{l:List α}{j:Nat}{y:β}(h:(l.map f)[j]?=some y):∃x,l[j]?=some x∧f x=y:=AI (by rw[←aK];exact h)
section
variable{G:List Int}{C:Cl}{w:W}{K:Kv}
theorem Mu:vQ (gR G C):=λd hd w K k=>by
 refine⟨rfl,DS (Giv.tup (λξ=>True) _) (λj ρ w'=>Fm0 w w'∧At w' w.next (.list ((pW (d.take j)).map .int))∧∃a b,ρ=[dV d,.ref w.next,a,b]) (λξ ξ ξ ξ=>trivial) (λj x hx ρ w' h R hR=>?_) (λρ w' h=>?_) ⟨Fm.refl.add _,At.new _ _,_,_,rfl⟩⟩
 ·obtain⟨f1,c1,a,b,rfl⟩:=h
  obtain⟨p,hp,rfl⟩:=kW hx
  have hj:j<d.length:=(aB.mp hp).1
  have hv:=hd.val p (aF hp)
  have l1:=CI (d:=d.take j) λq hq=>hd.val q (dY hq)
  have l2:=hd.len
  have l3:lim=100000:=rfl
  refine ok (fQ c1) (ok (Og c1 (qX hv).1 ?_) (hR _ _ ⟨f1.set (.inr (aO _)) _,?_,_,_,rfl⟩))
  ·rw[Dx,aD,aA,aA,kM]
   rw[cS] at l1
   exact aQ (dH (aE l1 (dJ 21 (aE (eI _ _) l2))) (qX hv).2) (by decide)
  ·rw[Dx,gS hp,CJ,aI]
   have:=c1.put (.list ((pW (d.take j)).map .int++(kN p.1 (p.2+1-p.1).toNat).map .int))
   rw[show pW [p]=kN p.1 (p.2+1-p.1).toNat from cD _];exact this
 ·obtain⟨f1,c1,a,b,rfl⟩:=h
  rw[aA,bM] at c1
  exact k _ _ f1 (aO _) c1
noncomputable def Ae(d:Dm):Int:=List.casesOn d 0 λp ξ=>p.1
noncomputable def xV(d:Dm):Int:=(d.getLast?.map (·.2)).getD 0
noncomputable def yD(x l:Int)(d:Dm):List Lit:=List.rec (motive:=λξ=>Int→List Lit) (λξ=>[]) (λp ξ r l=>(kN (l+1) (p.1-(l+1)).toNat).map (λv=>(x,3,v))++r p.2) d l
theorem pT(x l:Int)(p:Int×Int)(d:Dm):yD x l (p::d)=(kN (l+1) (p.1-(l+1)).toNat).map (λv=>(x,3,v))++yD x p.2 d:=rfl
theorem OT(x l:Int):yD x l []=[]:=rfl
noncomputable def stL(x:Int)(d:Dm):List Lit:=[(x,1,Ae d),(x,0,xV d)]++yD x (Ae d-1) d
noncomputable def Pn(C:Cl):Prop:=∀d,d≠[]→Pur C DU [dV d] (.int (Ae d))
noncomputable def Hd(C:Cl):Prop:=∀d,d≠[]→Pur C tV [dV d] (.int (xV d))
noncomputable def oF(C:Cl):Prop:=∀d,Dok d→d≠[]→∀x:Int,Zj C Go [.int x,dV d] ((stL x d).map iG)
theorem Xc:Pn (gR G C):=λd hd w K k=>by
 cases d with
 |nil=>exact absurd rfl hd
 |cons p d=>exact Qp p d (k _ .refl)
theorem Uu:Hd (gR G C):=λd hd w K k=>by
 have e:=List.dropLast_concat_getLast hd
 have k:=k _ .refl
 have e2:xV d=(d.getLast hd).2:=by unfold xV;rw[List.getLast?_eq_some_getLast hd];rfl
 rw[e2] at k
 rw[←e];exact GU _ _ k
inductive StI(d:Dm)(x:Int)(w:W)(j:Nat):List V→W→Prop
 |mk (n:Nat) (acc:List Lit) (last:Int) (a b c:V) (w':W):Fm0 w w'→w.next≤n→At w' n (.list (acc.map iG))→acc++yD x last (d.drop j)=stL x d→acc.length≤2+21*j→-11≤last∧last≤10→StI d x w j [.int x,dV d,.ref n,.int last,a,b,c] w'
inductive StJ(d:Dm)(x:Int)(w:W)(n:Nat)(acc:List Lit)(last:Int)(p:Int×Int)(i:Nat):List V→W→Prop
 |mk (c:V) (w':W):Fm0 w w'→At w' n (.list ((acc++((kN (last+1) (p.1-(last+1)).toNat).take i).map (λv=>(x,3,v))).map iG))→StJ d x w n acc last p i [.int x,dV d,.ref n,.int last,.int p.1,.int p.2,c] w'
theorem UR{d:Dm}{x:Int}{w:W}{n:Nat}{acc:List Lit}{last:Int}{a b c:V}{j:Nat}{p:Int×Int}{w'':W}(hd:Dok d)(hp:d[j]?=some p)(hn:w.next≤n)(f5:Fm0 w w'')(c5:At w'' n (.list ((acc++(kN (last+1) (p.1-(last+1)).toNat).map (λv=>(x,3,v))).map iG)))(e4:acc++yD x last (d.drop j)=stL x d)(l4:acc.length≤2+21*j)(b1:-11≤last∧last≤10):StI d x w (j+1) [.int x,dV d,.ref n,.int p.2,a,b,c] w'':=by
 have hj:j<d.length:=(aB.mp hp).1
 have hv:=hd.val p (aF hp)
 have ed:d.drop j=p::d.drop (j+1):=by rw[eS hj];rw[aC hj] at hp;cases hp;rfl
 rw[ed,pT,←bV] at e4
 refine⟨n,_,p.2,a,b,c,w'',f5,hn,c5,e4,?_,(yU hv b1).2.2⟩
 rw[aD,aA,kM,Nat.mul_succ,←Nat.add_assoc];exact dH l4 (yU hv b1).1
theorem QX{d:Dm}{last:Int}{acc:List Lit}{j:Nat}{p:Int×Int}{x:Int}{i:Nat}(hd:Dok d)(hp:d[j]?=some p)(l4:acc.length≤2+21*j)(b1:-11≤last∧last≤10) :
  ((acc++((kN (last+1) (p.1-(last+1)).toNat).take i).map (λv=>((x,3,v):Lit))).map iG).length<lim:=by
 have hj:j<d.length:=(aB.mp hp).1
 have hv:=hd.val p (aF hp)
 have l2:=hd.len
 have l3:lim=100000:=rfl
 rw[aA,aD,aA,cS,kM]
 exact aQ (dH (aE l4 (fO (dJ 21 (bW (aM hj l2))) 2)) (aE (eI _ _) (yU hv b1).1)) (by decide)
theorem MR{d:Dm}{last:Int}{j:Nat}{p:Int×Int}(hd:Dok d)(hp:d[j]?=some p)(b1:-11≤last∧last≤10):jC (last+1) p.1=true:=by
 have hv:=hd.val p (aF hp)
 exact(yU hv b1).2.1
theorem UQ{d:Dm}(hd:Dok d)(hne:d≠[]):-11≤Ae d-1∧Ae d-1≤10:=by
 cases d with
 |nil=>exact absurd rfl hne
 |cons p d=>have h:=hd.val p aZ;exact⟨Int.sub_le_sub_right h.1 1,aS (Int.sub_le_self _ (by decide)) h.2.1⟩
theorem QZ{d:Dm}{x:Int}{last:Int}{acc:List Lit}(e:acc++yD x last (d.drop d.length)=stL x d):acc=stL x d:=by
 rw[List.drop_length,OT,cD] at e;exact e
theorem GS(h1:Pn C)(h2:Hd C):oF (gR G C):=λd hd hne x w K k =>
 ⟨rfl,h1 d hne _ _ λw1 f1=>h2 d hne _ _ λw2 f2=>h1 d hne _ _ λw3 f3 =>
  iD (Giv.tup (λξ=>True) _) (StI d x w) (λξ ξ ξ ξ=>trivial) (.mk _ [(x,1,Ae d),(x,0,xV d)] (Ae d-1) _ _ _ _ (((f1.trans f2).add _).trans f3) (aE f1.next f2.next) (f3.at (At.new _ _)) rfl (aO 2) (UQ hd hne))
   (λρ w' h=>h.casesOn λn acc last a b c w' f4 hn c4 e4 l4 b1=>k _ _ f4 hn (QZ e4▸c4))
   λj p hp ρ w' h R hR=>h.casesOn λn acc last a b c w' f4 hn c4 e4 l4 b1=>bT (MR hd hp b1)
    (iD (Giv.rng (λξ=>True) (last+1) (p.1-(last+1)).toNat) (StJ d x w n acc last p) (λξ ξ ξ ξ=>trivial) (.mk _ _ f4 (c4.cast (by simp)))
     (λρ w'' h=>h.casesOn λc w'' f5 c5=>hR _ _ (UR hd hp hn f5 (c5.cast (by rw[bM])) e4 l4 b1))
     λi v hv ρ w'' h R' hR'=>h.casesOn λc w'' f5 c5=>ok (fQ c5) (ok (fQ c5) (ok (gZ c5 (QX hd hp l4 b1)) (hR' _ _ (.mk _ _ (f5.set (.inr hn) _) ((c5.put _).cast (by simp[gS hv,iG])))))))⟩
end
structure Te where
 x:Nat
 old:Dm
 lit:Lit
 why:Option (List Lit)
 spk:Int
structure Sr where
 doms:List Dm
 firsts:List Dm
 trail:List Te
 marks:List Int
 failed:Bool
 clash:List Lit
 nn:Nat
noncomputable def AO(l:List Lit):V:=.tup (l.map iG)
noncomputable def QO(o:Option (List Lit)):V:=Option.rec .none AO o
noncomputable def teV(e:Te):V:=.tup [.int (e.x:Nat),dV e.old,iG e.lit,QO e.why,.int e.spk]
structure Sc where
 s:Nat
 a:Nat
 b:Nat
 t:Nat
 m:Nat
 n:Nat
noncomputable def Jq(c:Sc)(σ:Sr):List (Nat×V):=[(0,.ref c.a),(1,.ref c.b),(2,.ref c.t),(3,.ref c.m),(4,.ref c.n),(5,.int (-1)),(6,.bool σ.failed),(7,AO σ.clash)]
noncomputable def Sc.In(c:Sc)(n:Nat):Prop:=n=c.s∨n=c.a∨n=c.b∨n=c.t∨n=c.m∨n=c.n
structure iP(w:W)(σ:Sr)(c:Sc):Prop where
 ns:At w c.s (.ns (Jq c σ))
 doms:At w c.a (.list (σ.doms.map dV))
 firsts:At w c.b (.list (σ.firsts.map dV))
 trail:At w c.t (.list (σ.trail.map teV))
 marks:At w c.m (.list (σ.marks.map .int))
 news:∃kvs,At w c.n (.dict kvs)∧kvs.length≤σ.nn
 ab:c.a≠c.b
 at_:c.a≠c.t
 am:c.a≠c.m
 bt:c.b≠c.t
 bm:c.b≠c.m
 tm:c.t≠c.m
section
variable{w w':W}{n m:Nat}{l:List V}{f g:List (Nat×V)}{kvs:List (Int×V)}{c:Sc}{σ:Sr}
theorem At.nl(h:At w n (.ns f))(k:At w m (.list l)):n≠m:=λe=>by subst e;exact nomatch congrArg pJ (h.eq k)
theorem At.nd(h:At w n (.ns f))(k:At w m (.dict kvs)):n≠m:=λe=>by subst e;exact nomatch congrArg nsC (h.eq k)
theorem At.dl(h:At w n (.dict kvs))(k:At w m (.list l)):n≠m:=λe=>by subst e;exact nomatch congrArg pJ (h.eq k)
theorem gG{k:Nat}(h:At w n (.ns f))(hk:k<3):nsW w (.obj k n)=some (k,n,f):=by
 show(if k<3 then((w.get n).bind nsC).map λfs=>(k,n,fs) else none)=_
 rw[if_pos hk,h.get];rfl
theorem fld{k i:Nat}{d:V}(h:At w n (.ns f))(hk:k<3)(e:f.lookup i=some d)(q:notSet d=true):Gn w (.obj k n) i=some d:=by
 show((nsW w (.obj k n)).bind λx=>(x.2.2.lookup i).bind λd=>if notSet d=true then some d else none)=_
 rw[gG h hk,cE,e,cE,if_pos q]
theorem hY{k i:Nat}{d:V}(h:At w n (.ns f))(hk:k<3)(hl:f.length<100):Qz w (.obj k n) i d=some (w.set n (.ns (mO i d f))):=by
 show((nsW w (.obj k n)).bind λx=>if x.2.2.length<100 then some (w.set x.2.1 (.ns (mO i d x.2.2))) else none)=_
 rw[gG h hk,cE,if_pos hl]
theorem jN{i:Nat}{d:V}(h:At w n (.list l))(hi:i<l.length):tJ w (.ref n) (.int i) d=some (w.set n (.list (l.set i d))):=by
 show((w.get n).bind (Cj w n i d))=_
 rw[h.get]
 show(seqIndex? (i:Int) l.length).map _=_
 rw[tO (bU i) (cH.mpr hi),eE,dO]
theorem nP{i:Int}{d:V}(h:At w n (.dict kvs))(hl:kvs.length<lim):tJ w (.ref n) (.int i) d=some (w.set n (.dict (mO i d kvs))):=by
 show((w.get n).bind (Cj w n i d))=_
 rw[h.get]
 exact if_pos hl
theorem iP.keep(h:iP w σ c){M:Nat→Prop}(f:Fm M w w')(q:∀n,c.In n→¬M n):iP w' σ c where
 ns:=f.keep _ _ (q _ (.inl rfl)) h.ns
 doms:=f.keep _ _ (q _ (.inr (.inl rfl))) h.doms
 firsts:=f.keep _ _ (q _ (.inr (.inr (.inl rfl)))) h.firsts
 trail:=f.keep _ _ (q _ (.inr (.inr (.inr (.inl rfl))))) h.trail
 marks:=f.keep _ _ (q _ (.inr (.inr (.inr (.inr (.inl rfl)))))) h.marks
 news:=h.news.elim λk z=>⟨k,f.keep _ _ (q _ (.inr (.inr (.inr (.inr (.inr rfl)))))) z.1,z.2⟩
 ab:=h.ab
 at_:=h.at_
 am:=h.am
 bt:=h.bt
 bm:=h.bm
 tm:=h.tm
theorem iP.keep0(h:iP w σ c)(f:Fm0 w w'):iP w' σ c:=h.keep f λξ ξ q=>q
structure gU(w:W)(c:Sc)(w':W)(σ':Sr)(c':Sc):Prop where
 at_:iP w' σ' c'
 fm:Fm c.In w w'
 cells:∀n,c'.In n→c.In n∨w.next≤n
 same:c'.s=c.s
theorem gU.refl(h:iP w σ c):gU w c w σ c:=⟨h,.refl,λξ q=>.inl q,rfl⟩
theorem gU.trans{w'':W}{σ' σ'':Sr}{c' c'':Sc}(a:gU w c w' σ' c')(b:gU w' c' w'' σ'' c''):gU w c w'' σ'' c'':=
 ⟨b.at_,⟨aE a.fm.next b.fm.next,λn d q h=>b.fm.keep n d (λz=>(a.cells n z).elim q λy=>eF.mpr h.lt y) (a.fm.keep n d q h)⟩,
  λn q=>(b.cells n q).elim (λz=>a.cells n z) λy=>.inr (aE a.fm.next y),b.same.trans a.same⟩
theorem gU.pre{w₀:W}{σ':Sr}{c':Sc}(f:Fm0 w₀ w)(a:gU w c w' σ' c'):gU w₀ c w' σ' c':=
 ⟨a.at_,f.up.trans a.fm,λn q=>(a.cells n q).imp id λy=>aE f.next y,a.same⟩
theorem gU.post{w'':W}{σ':Sr}{c':Sc}(a:gU w c w' σ' c')(f:Fm0 w' w''):gU w c w'' σ' c':=⟨a.at_.keep0 f,a.fm.trans f.up,a.cells,a.same⟩
theorem gU.fix{σ':Sr}{c':Sc}(a:gU w c w' σ' c'){d:hW}(h:At w n d)(q:¬c.In n):At w' n d∧¬c'.In n:=⟨a.fm.keep n d q h,λz=>(a.cells n z).elim q λy=>eF.mpr h.lt y⟩
end
noncomputable def ZG:Fn:=⟨2,2,none,vB⟩
noncomputable def Vi:Fn:=⟨3,3,none,vA⟩
noncomputable def Rq:Fn:=⟨2,2,none,rG⟩
noncomputable def Ry:Fn:=⟨2,2,none,rH⟩
noncomputable def Gr:Fn:=⟨2,2,none,tD⟩
noncomputable def Rz:Fn:=⟨4,7,none,rI⟩
noncomputable def Ob:Fn:=⟨3,3,none,qP⟩
noncomputable def Of:Fn:=⟨2,2,none,qQ⟩
noncomputable def Vk:Fn:=⟨1,1,none,tC⟩
noncomputable def ZE:Fn:=⟨2,4,none,uZ⟩
noncomputable def LB:Fn:=⟨2,2,none,pO⟩
noncomputable def Rt:Fn:=⟨1,1,none,oW⟩
noncomputable def Rdg(C:Cl)(F:Fn)(c:Sc)(σ:Sr)(vs:List V)(d:V):Prop:=∀w K,iP w σ c→(∀w',Fm0 w w'→K d w')→C F (.obj 0 c.s::vs) w K
noncomputable def xX(C:Cl):Prop:=∀c σ (x:Nat) d,σ.doms[x]?=some d→Rdg C ZG c σ [.int x] (dV d)
noncomputable def Po(C:Cl):Prop:=∀d v,Pur C Tk [dV d,.int v] (.bool (decide (rP d v=some v)))
noncomputable def HY(C:Cl):Prop:=∀d,Dok d→Pur C Od [dV d] (.int (JN d))
noncomputable def HZ(C:Cl):Prop:=∀c σ (x:Nat) d v,σ.doms[x]?=some d→Rdg C Vi c σ [.int x,.int v] (.bool (decide (rP d v=some v)))
noncomputable def Dh(C:Cl):Prop:=∀c σ (x:Nat) d,σ.doms[x]?=some d→Dok d→Rdg C Rq c σ [.int x] (.int (JN d))
noncomputable def nK(C:Cl):Prop:=∀c σ (l:Lit) (x:Nat) d,l.1=x→σ.doms[x]?=some d→Dok d→l.2.1<4→Rdg C Ry c σ [iG l] (.int (if gW l.2.1 l.2.2 d=d then 1 else if gW l.2.1 l.2.2 d=[] then -1 else 0))
noncomputable def Trn(C:Cl)(F:Fn)(c:Sc)(σ:Sr)(vs:List V)(d:V)(σ':Sr):Prop:=∀w K,iP w σ c→(∀w' c',gU w c w' σ' c'→K d w')→C F (.obj 0 c.s::vs) w K
noncomputable def aAj(C:Cl):Prop:=∀c σ ls,Trn C Gr c σ [AO ls] (.bool false) {σ with failed:=true,clash:=ls}
section
variable{G:List Int}{C:Cl}{w:W}{K:Kv}
theorem Aa{ds:List Dm}{n x:Nat}{d:Dm}(h:At w n (.list (ds.map dV)))(e:ds[x]?=some d):jF w (.ref n) (.int x)=some (dV d):=fY h (by rw[aK,e];rfl)
theorem Xf:xX (gR G C):=λc σ x d e w K S k=>⟨rfl,ok (fld S.ns (by decide) rfl rfl) (ok (Aa S.doms e) (k _ .refl))⟩
theorem Ul(h1:Po C):HZ (gR G C):=λc σ x d v e w K S k=>⟨rfl,ok (fld S.ns (by decide) rfl rfl) (ok (Aa S.doms e) (h1 _ _ _ _ k))⟩
theorem Qg(h1:HY C):Dh (gR G C):=λc σ x d e hd w K S k=>⟨rfl,ok (fld S.ns (by decide) rfl rfl) (ok (Aa S.doms e) (h1 _ hd _ _ k))⟩
theorem Qr(h1:xA C):nK (gR G C):=λc σ l x d hx e hd hl w K S k=>⟨rfl,ok (fld S.ns (by decide) rfl rfl) (ok (hx▸Aa S.doms e) (h1 _ hd _ hl _ _ k))⟩
end
section
variable{w w':W}{c:Sc}{σ:Sr}
theorem Wc{κ:Type}[DecidableEq κ](k:κ)(v:V)(l:List (κ×V)):(mO k v l).length≤l.length+1:=zX k v l
theorem gU.flag(S:iP w σ c)(f:Bool)(l:List Lit):gU w c (w.set c.s (.ns (Jq c {σ with failed:=f,clash:=l}))) {σ with failed:=f,clash:=l} c:=
 ⟨⟨S.ns.put _,S.doms.set (S.ns.nl S.doms).symm _,S.firsts.set (S.ns.nl S.firsts).symm _,S.trail.set (S.ns.nl S.trail).symm _,S.marks.set (S.ns.nl S.marks).symm _,S.news.elim λk z=>⟨k,z.1.set (S.ns.nd z.1).symm _,z.2⟩,S.ab,S.at_,S.am,S.bt,S.bm,S.tm⟩,
  Fm.refl.set (.inl (.inl rfl)) _,λξ q=>.inl q,rfl⟩
theorem gU.entry(S:iP w σ c){kvs:List (Int×V)}(hk:At w c.n (.dict kvs))(hl:kvs.length≤σ.nn)(e:Te)(d:Dm) :
  gU w c (((w.set c.t (.list (σ.trail.map teV++[teV e]))).set c.a (.list ((σ.doms.map dV).set e.x (dV d)))).set c.n (.dict (mO (e.x:Nat) (.bool true) kvs))) {σ with trail:=σ.trail++[e],doms:=σ.doms.set e.x d,nn:=σ.nn+1} c:=
 ⟨⟨((S.ns.set (S.ns.nl S.trail) _).set (S.ns.nl S.doms) _).set (S.ns.nd hk) _,(((S.doms.set S.at_ _).put _).set (hk.dl S.doms).symm _).cast eW.symm,
   ((S.firsts.set S.bt _).set S.ab.symm _).set (hk.dl S.firsts).symm _,(((S.trail.put _).set S.at_.symm _).set (hk.dl S.trail).symm _).cast (by rw[aI];rfl),((S.marks.set S.tm.symm _).set S.am.symm _).set (hk.dl S.marks).symm _,
   ⟨_,((hk.set (hk.dl S.trail) _).set (hk.dl S.doms) _).put _,aE (zX _ _ _) (Nat.succ_le_succ hl)⟩,S.ab,S.at_,S.am,S.bt,S.bm,S.tm⟩,
  ((Fm.refl.set (.inl (.inr (.inr (.inr (.inl rfl))))) _).set (.inl (.inr (.inl rfl))) _).set (.inl (.inr (.inr (.inr (.inr (.inr rfl)))))) _,λξ q=>.inl q,rfl⟩
theorem gU.push(S:iP w σ c)(i:Int):gU w c (w.set c.m (.list (σ.marks.map .int++[.int i]))) {σ with marks:=σ.marks++[i]} c:=
 ⟨⟨S.ns.set (S.ns.nl S.marks) _,S.doms.set S.am _,S.firsts.set S.bm _,S.trail.set S.tm _,(S.marks.put _).cast (by rw[aI];rfl),S.news.elim λk z=>⟨k,z.1.set (z.1.dl S.marks) _,z.2⟩,S.ab,S.at_,S.am,S.bt,S.bm,S.tm⟩,
  Fm.refl.set (.inl (.inr (.inr (.inr (.inr (.inl rfl)))))) _,λξ q=>.inl q,rfl⟩
end
noncomputable def yF(σ:Sr)(x:Nat)(l:Lit)(why:Option (List Lit))(spk:Int)(d:Dm):Sr:=
 if gW l.2.1 l.2.2 d=[] then{σ with failed:=true,clash:=why.getD []++[NF l]} else if gW l.2.1 l.2.2 d=d then σ else{σ with trail:=σ.trail++[⟨x,d,l,why,spk⟩],doms:=σ.doms.set x (gW l.2.1 l.2.2 d),nn:=σ.nn+1}
structure Fy(σ:Sr)(x:Nat)(l:Lit)(why:Option (List Lit))(d:Dm):Prop where
 var:l.1=(x:Int)
 dom:σ.doms[x]?=some d
 ok:Dok d
 sign:l.2.1<4
 why:(why.getD []).length<lim
 trail:σ.trail.length<lim
 nn:σ.nn<lim
noncomputable def sO(C:Cl):Prop:=∀c σ ls v w K,iP w σ c→mS w v=some (ls.map iG)→(∀w' c',gU w c w' {σ with failed:=true,clash:=ls} c'→K (.bool false) w')→C Gr [.obj 0 c.s,v] w K
noncomputable def zA(C:Cl):Prop:=∀c σ x l why spk d,Fy σ x l why d→Trn C Rz c σ [iG l,QO why,.int spk] (.bool (decide (gW l.2.1 l.2.2 d≠[]))) (yF σ x l why spk d)
noncomputable def rW(C:Cl):Prop:=∀c σ x l ls d n w K,Fy σ x l (some ls) d→iP w σ c→At w n (.list (ls.map iG))→(∀w' c',gU w c w' (yF σ x l (some ls) (-1) d) c'→K (.bool (decide (gW l.2.1 l.2.2 d≠[]))) w')→C Ob [.obj 0 c.s,iG l,.ref n] w K
noncomputable def jL(C:Cl):Prop:=∀c σ x l d,Fy σ x l none d→Trn C Of c σ [iG l] (.bool (decide (gW l.2.1 l.2.2 d≠[]))) (yF σ x l none (-1) d)
noncomputable def oG(C:Cl):Prop:=∀c σ,σ.marks.length<lim→Trn C Vk c σ [] .none {σ with marks:=σ.marks++[(σ.trail.length:Int)]}
section
variable{G:List Int}{C:Cl}{w:W}{K:Kv}
theorem AS{n:Nat}{l:List V}(h:At w n (.list l)):mS w (.ref n)=some l:=fQ h
theorem Jk{v:V}{l:List V}(h:mS w v=some l):wT 6 [v] w=some (.tup l,w):=by
 show(mS w v).map _=_
 rw[h];rfl
theorem Jw{v:V}{l:List V}(h:mS w v=some l):notSet v=true:=by cases mC h<;>rfl
theorem Qb(o:Option (List Lit)):notSet (QO o)=true:=by cases o<;>rfl
theorem Uw:sO (gR G C):=λc σ ls v w K S hv k=>by
 have hv2:mS (w.set c.s (.ns (Jq c {σ with failed:=true}))) v=some (ls.map iG):=by
  cases mC hv with
  |tup=>rfl
  |ref n hn =>
   have q:n≠c.s:=λe=>by subst e;rw[S.ns.get] at hn;exact nomatch congrArg (·.bind pJ) hn
   show((W.get (w.set c.s _) n).bind pJ)=_
   rw[show(w.set c.s (.ns (Jq c {σ with failed:=true}))).get n=w.get n from if_neg q,hn];rfl
 have a:=gU.flag S true σ.clash
 refine⟨rfl,ok (hY S.ns (by decide) (by decide:8<100)) ?_⟩
 refine bT (Jw hv2) (ok (Jk hv2) ?_)
 refine ok (hY a.at_.ns (by decide) (by decide:8<100)) ?_
 exact k _ _ (a.trans (gU.flag a.at_ true ls))
theorem VR(o:Option (List Lit)):jK .Is w (QO o) .none=some o.isNone:=by cases o<;>rfl
theorem Qs(h1:vR C)(h2:uB C)(h3:sO C):zA (gR G C):=λc σ x l why spk d e w K S k=>by
 obtain⟨x',s,n⟩:=l
 obtain⟨hx,hd,ok_,hs,hw,ht,hnn⟩:=e
 have hx:x'=(x:Int):=hx
 subst hx
 unfold yF at k
 refine⟨rfl,ok (fld S.ns (by decide) rfl rfl) (ok (Aa S.doms hd) (h1 _ ok_ _ hs _ _ λw1 f1=>ok (Fc _ []) (dB (λq=>?_) λq=>ok (Fc _ _) (dB (λq2=>?_) λq2=>?_))))⟩
 ·rw[if_pos q,show decide (gW _ _ d≠[])=false from decide_eq_false λz=>z q] at k
  have fin:∀w2,Fm0 w1 w2→∀v,mS w2 v=some ((why.getD []++[NF ((x:Int),s,n)]).map iG)→C Gr [.obj 0 c.s,v] w2 K:=λw2 f2 v hv=>h3 c σ _ v w2 K (S.keep0 (f1.trans f2)) hv λw' c' z=>k _ _ (z.pre (f1.trans f2))
  cases why with
  |none=>exact ok (gG (S.keep0 f1).ns (by decide)) (h2 _ hs _ _ λw2 f2=>fin w2 f2 _ rfl)
  |some ls =>
   refine ok (gG (S.keep0 f1).ns (by decide)) (h2 _ hs _ _ λw2 f2=>ok (CY (as:=ls.map iG) (bs:=[iG (NF ((x:Int),s,n))]) ?_) (fin w2 f2 _ (by show some _=_;rw[aI];rfl)))
   rw[aD,aA];exact hw
 ·rw[if_neg q,if_pos q2,show decide (gW _ _ d≠[])=true from decide_eq_true q] at k
  exact k _ _ ((gU.refl (S.keep0 f1)).pre f1)
 ·rw[if_neg q,if_neg q2,show decide (gW _ _ d≠[])=true from decide_eq_true q] at k
  have S1:=S.keep0 f1
  obtain⟨kvs,hk,hl⟩:=S1.news
  have z:=gU.entry S1 hk hl ⟨x,d,((x:Int),s,n),why,spk⟩ (gW s n d)
  have lx:x<σ.doms.length:=(aB.mp hd).1
  refine ok (fld S1.ns (by decide) rfl rfl) (ok (fQ S1.trail) (bT (Qb why) (ok (fQ S1.trail) (ok (gZ S1.trail (by rw[aA];exact ht)) (ok (fld (S1.ns.set (S1.ns.nl S1.trail) _) (by decide) rfl rfl) (ok (jN (S1.doms.set S1.at_ _) (by rw[aA];exact lx))
   (ok (fld ((S1.ns.set (S1.ns.nl S1.trail) _).set (S1.ns.nl S1.doms) _) (by decide) rfl rfl) (ok (nP ((hk.set (hk.dl S1.trail) _).set (hk.dl S1.doms) _) (aQ hl hnn)) (k _ _ (z.pre f1))))))))))
theorem Mx(h1:zA C):rW (gR G C):=λc σ x l ls d n w K e S hn k=>by
 refine⟨rfl,ok (gG S.ns (by decide)) (ok (iW hn) (ok (fld S.ns (by decide) rfl rfl) (h1 c σ x l (some ls) (-1) d e w _ S k)))⟩
theorem Mz(h1:zA C):jL (gR G C):=λc σ x l d e w K S k=>⟨rfl,ok (gG S.ns (by decide)) (h1 c σ x l none (-1) d e w _ S k)⟩
theorem Un:oG (gR G C):=λc σ hl w K S k=>by
 have e:V.int ((σ.trail.map teV).length:Nat)=.int (σ.trail.length:Nat):=by rw[aA]
 refine⟨rfl,ok (fld S.ns (by decide) rfl rfl) (ok (fQ S.marks) (ok (fld S.ns (by decide) rfl rfl) (ok (gJ S.trail) (ok (fQ S.marks) (ok (gZ S.marks (by rw[aA];exact hl)) ?_)))))⟩
 rw[e];exact k _ _ (gU.push S _)
end
noncomputable def undo(ds:List Dm)(es:List Te):List Dm:=es.foldr (λe ds=>ds.set e.x e.old) ds
structure Ty(σ:Sr)(ms:List Int)(tr es:List Te):Prop where
 marks:σ.marks=ms++[(tr.length:Int)]
 trail:σ.trail=tr++es
 vars:∀e∈es,e.x<σ.doms.length
noncomputable def GX(σ:Sr)(ms:List Int)(tr es:List Te):Sr:={σ with doms:=undo σ.doms es,trail:=tr,marks:=ms,failed:=decide ([]∈σ.firsts),clash:=[],nn:=0}
noncomputable def Av(C:Cl):Prop:=∀c σ ms tr es,Ty σ ms tr es→Trn C ZE c σ [.int 1] .none (GX σ ms tr es)
theorem XC(ds:List Dm)(es:List Te):(undo ds es).length=ds.length:=by
 induction es with
 |nil=>rfl
 |cons e es ih=>show((undo ds es).set _ _).length=_;rw[bR,ih]
theorem Dy(ds:List Dm)(es:List Te)(e:Te):undo ds (es++[e])=undo (ds.set e.x e.old) es:=by unfold undo;rw[List.foldr_append];rfl
section
variable{w w':W}{c:Sc}{σ:Sr}
theorem gU.back(S:iP w σ c){tr:List Te}{e:Te}(h:σ.trail=tr++[e]) :
  gU w c ((w.set c.t (.list (σ.trail.map teV).dropLast)).set c.a (.list ((σ.doms.map dV).set e.x (dV e.old)))) {σ with trail:=tr,doms:=σ.doms.set e.x e.old} c:=
 ⟨⟨(S.ns.set (S.ns.nl S.trail) _).set (S.ns.nl S.doms) _,((S.doms.set S.at_ _).put _).cast eW.symm,(S.firsts.set S.bt _).set S.ab.symm _,((S.trail.put _).set S.at_.symm _).cast (by rw[h,aI];exact List.dropLast_concat),
   (S.marks.set S.tm.symm _).set S.am.symm _,S.news.elim λk z=>⟨k,(z.1.set (z.1.dl S.trail) _).set (z.1.dl S.doms) _,z.2⟩,S.ab,S.at_,S.am,S.bt,S.bm,S.tm⟩,
  (Fm.refl.set (.inl (.inr (.inr (.inr (.inl rfl))))) _).set (.inl (.inr (.inl rfl))) _,λξ q=>.inl q,rfl⟩
theorem gU.remark(S:iP w σ c)(ms:List Int)(n:Nat)(hn:n=w.next)(F:List (Nat×V))(hF:F=Jq {c with m:=n} {σ with marks:=ms}):gU w c ((w.add (.list (ms.map .int))).set c.s (.ns F)) {σ with marks:=ms} {c with m:=n}:=by
 subst hn
 subst hF
 have new:∀{d},At w c.a d∨At w c.b d∨At w c.t d→True:=λξ=>trivial
 exact⟨⟨(S.ns.add _).put _,(S.doms.add _).set (S.ns.nl S.doms).symm _,(S.firsts.add _).set (S.ns.nl S.firsts).symm _,(S.trail.add _).set (S.ns.nl S.trail).symm _,(At.new _ _).set (cP S.ns.lt) _,S.news.elim λk z=>⟨k,(z.1.add _).set (S.ns.nd z.1).symm _,z.2⟩,
   S.ab,S.at_,bG S.doms.lt,S.bt,bG S.firsts.lt,bG S.trail.lt⟩,(Fm.refl.add _).set (.inl (.inl rfl)) _,
  λk q=>by rcases q with q | q | q | q | q | q<;>first | exact .inl (.inl q) | exact .inl (.inr (.inl q)) | exact .inl (.inr (.inr (.inl q))) | exact .inl (.inr (.inr (.inr (.inl q)))) | exact .inr (bH q.symm) | exact .inl (.inr (.inr (.inr (.inr (.inr q))))),rfl⟩
theorem gU.renews(S:iP w σ c)(n:Nat)(hn:n=w.next)(F:List (Nat×V))(hF:F=Jq {c with n:=n} {σ with nn:=0}):gU w c ((w.add (.dict [])).set c.s (.ns F)) {σ with nn:=0} {c with n:=n}:=by
 subst hn
 subst hF
 exact⟨⟨(S.ns.add _).put _,(S.doms.add _).set (S.ns.nl S.doms).symm _,(S.firsts.add _).set (S.ns.nl S.firsts).symm _,(S.trail.add _).set (S.ns.nl S.trail).symm _,(S.marks.add _).set (S.ns.nl S.marks).symm _,⟨[],(At.new _ _).set (cP S.ns.lt) _,aO _⟩,
   S.ab,S.at_,S.am,S.bt,S.bm,S.tm⟩,(Fm.refl.add _).set (.inl (.inl rfl)) _,
  λk q=>by rcases q with q | q | q | q | q | q<;>first | exact .inl (.inl q) | exact .inl (.inr (.inl q)) | exact .inl (.inr (.inr (.inl q))) | exact .inl (.inr (.inr (.inr (.inl q)))) | exact .inl (.inr (.inr (.inr (.inr (.inl q))))) | exact .inr (bH q.symm),rfl⟩
theorem SW(ds:List Dm):((ds.map λd=>PyData.tuple (d.map prP)).any λy=>PyData.eqv y (.tuple []))=decide ([]∈ds):=by
 induction ds with
 |nil=>rfl
 |cons d ds ih =>
  rw[aY,List.any_cons,ih]
  cases d with
  |nil=>simp[PyData.eqv,PyData.eqvAll]
  |cons p d=>simp[PyData.eqv,PyData.eqvAll]
theorem Kr{n:Nat}{ds:List Dm}(h:At w n (.list (ds.map dV))):jK .In w (.tup []) (.ref n)=some (decide ([]∈ds)):=by
 have h2:rds (rd w 8) (ds.map dV)=some (ds.map λd=>.tuple (d.map prP)):=uJ ds λd ξ=>Ms d
 show((w.get n).bind λc=>hW.casesOn (motive:=λξ=>Option Bool) c (inL w (.tup [])) (λkvs=>(kY (.tup [])).map λi=>(kvs.lookup i).isSome) λξ=>none)=_
 rw[h.get]
 show((rd w 8 (.tup [])).bind λp=>(rds (rd w 8) (ds.map dV)).map λqs=>qs.any λy=>PyData.eqv y p)=_
 rw[h2,←SW];rfl
theorem BX{G:List Int}{n:Nat}{l:List V}{k:Int}{j:Nat}(h:At w n (.list l))(e:k=(j:Nat)):MD G w (.ref n) (.int k)=some (l.take j):=by
 subst e
 show(iS w (.ref n)).bind (λds=>if 0≤((j:Nat):Int) then some (ds.take ((j:Nat):Int).toNat) else none)=_
 rw[fQ h,cE,if_pos (bU j),dO]
theorem FJ{n:Nat}{l:List V}{k:Int}{j:Nat}{d:V}(h:At w n (.list l))(e:k=(j:Nat))(hd:l[j]?=some d):jF w (.ref n) (.int k)=some d:=by subst e;exact fY h hd
theorem zZ{n:Nat}{l:List V}{d:V}(h:l.getLast?=some d):Ge n 2 l [] w=some (d,w.set n (.list l.dropLast)):=by
 show(l.getLast?.bind λv=>if([]:List V).isEmpty then some (v,w.set n (.list l.dropLast)) else none)=_
 rw[h];rfl
end
inductive Zk(c:Sc)(σ:Sr)(w:W)(ms:List Int)(tr es₀:List Te)(m':Nat)(x:List Te×List Dm):List V→W→Prop
 |mk (a:V) (w':W):gU w c w' {σ with marks:=ms,trail:=tr++x.1,doms:=x.2} {c with m:=m'}→undo x.2 x.1=undo σ.doms es₀→x.2.length=σ.doms.length→(∀e∈x.1,e.x<σ.doms.length)→Zk c σ w ms tr es₀ m' x [.obj 0 c.s,.int 1,.int (tr.length:Nat),a] w'
section
variable{G:List Int}{C:Cl}{w:W}{K:Kv}
theorem Xa:Av (gR G C):=λc σ ms tr es h w K S k=>by
 have e1:(((σ.marks.map V.int).length:Nat):Int)-1=(ms.length:Nat):=by rw[h.marks,aA,aD,bI];(simp at *;done)
 have e2:(σ.marks.map V.int)[ms.length]?=some (.int (tr.length:Nat)):=by rw[h.marks];simp
 have e3:(σ.marks.map V.int).take ms.length=ms.map .int:=by rw[h.marks,aI,←aA (f:=V.int),List.take_left]
 refine⟨rfl,ok (fld S.ns (by decide) rfl rfl) (ok (fld S.ns (by decide) rfl rfl) (ok (gJ S.marks) (ok (FJ S.marks e1 e2) (ok (fld S.ns (by decide) rfl rfl) (ok (fld S.ns (by decide) rfl rfl) (ok (gJ S.marks) (ok (BX S.marks e1) (ok (hY (S.ns.add _) (by decide) (by decide:8<100)) ?_))))))))⟩
 rw[e3]
 have z:=gU.remark S ms _ rfl _ rfl
 have e4:({σ with marks:=ms}:Sr)={σ with marks:=ms,trail:=tr++es,doms:=σ.doms}:=by rw[←h.trail]
 refine tH λK1 hK1=>xJ (Zk c σ w ms tr es w.next) (λx=>x.1.length) ?_ (es,σ.doms) (.mk _ _ (e4▸z) rfl rfl h.vars)
 rintro⟨xs,ds⟩ ρ w' zz
 refine zz.casesOn λa w' T hu hl hv R hR=>?_
 have hu:undo ds xs=undo σ.doms es:=hu
 have hl:ds.length=σ.doms.length:=hl
 have T0:=T.at_
 have el:((tr++xs).map teV).length=tr.length+xs.length:=by rw[aA,aD]
 refine ok (fld T0.ns (by decide) rfl rfl) (ok (gJ T0.trail) (dB (λq=>?_) λq=>?_))
 ·rcases (List.eq_nil_or_concat xs).imp id (λ⟨ys,e,h2⟩=>(⟨ys,e,h2.trans (List.concat_eq_append ..)⟩:∃ys e,xs=ys++[e])) with rfl | ⟨ys,e,rfl⟩
  ·simp only[el] at q
   simp at q
  ·have hx:e.x<ds.length:=hl▸hv e (by simp)
   have eg:(((tr++(ys++[e])).map teV)).getLast?=some (teV e):=by simp
   have b:=gU.back T0 (tr:=tr++ys) (e:=e) (by simp)
   refine ok (fld T0.ns (by decide) rfl rfl) (ok (fQ T0.trail) (ok (fQ T0.trail) (ok (zZ eg) (ok (fld (T0.ns.set (T0.ns.nl T0.trail) _) (by decide) rfl rfl) (ok (jN (T0.doms.set T0.at_ _) (by rw[aA];exact hx)) ?_)))))
   refine hR (ys,ds.set e.x e.old) _ _ (.mk _ _ (T.trans b) (by rw[←hu,←Dy]) (by rw[←hl];exact bR) λe' h'=>hv e' (cG _ h')) (by simp)
 ·have hx:xs=[]:=by
   cases xs with
   |nil=>rfl
   |cons e ys=>exact absurd (by simp only[el];simp;simp +arith [*]) q
  subst hx
  have r:=gU.renews T0 _ rfl _ rfl
  have r0:=r.at_
  have f1:=gU.flag r0 (decide ([]∈σ.firsts)) σ.clash
  have f2:=gU.flag f1.at_ (decide ([]∈σ.firsts)) []
  have fin:=T.trans (r.trans (f1.trans f2))
  refine hK1 _ _ _ ?_
  refine ok (hY (T0.ns.add _) (by decide) (by decide:8<100)) (ok (fld r0.ns (by decide) rfl rfl) (ok (Kr r0.firsts) (ok (hY r0.ns (by decide) (by decide:8<100)) (ok (hY f1.at_.ns (by decide) (by decide:8<100)) ?_))))
  have e5:GX σ ms tr es={σ with doms:=ds,trail:=tr++[],marks:=ms,failed:=decide ([]∈σ.firsts),clash:=[],nn:=0}:=by unfold GX;rw[←hu,cD];rfl
  refine k _ _ (e5▸fin)
end
noncomputable def sr0:Sr:=⟨[],[],[],[],false,[],0⟩
noncomputable def KT(σ:Sr)(d:Dm):Sr:={σ with doms:=σ.doms++[d],firsts:=σ.firsts++[d]}
noncomputable def xC(C:Cl):Prop:=∀c σ d,d≠[]→σ.doms.length<lim→σ.firsts.length<lim→Trn C LB c σ [dV d] (.int σ.doms.length) (KT σ d)
noncomputable def Dl(C:Cl):Prop:=∀s w K,At w s (.ns [])→(∀w' c',iP w' sr0 c'→c'.s=s→Fm (· = s) w w'→(∀n,c'.In n→n=s∨w.next≤n)→K .none w')→C Rt [.obj 0 s] w K
section
variable{w w':W}{c:Sc}{σ:Sr}
theorem gU.dom(S:iP w σ c)(d:Dm):gU w c ((w.set c.a (.list (σ.doms.map dV++[dV d]))).set c.b (.list (σ.firsts.map dV++[dV d]))) (KT σ d) c:=
 ⟨⟨(S.ns.set (S.ns.nl S.doms) _).set (S.ns.nl S.firsts) _,((S.doms.put _).set S.ab _).cast (by show _=List.map dV (σ.doms++[d]);rw[aI];rfl),((S.firsts.set S.ab.symm _).put _).cast (by show _=List.map dV (σ.firsts++[d]);rw[aI];rfl),(S.trail.set S.at_.symm _).set S.bt.symm _,
   (S.marks.set S.am.symm _).set S.bm.symm _,S.news.elim λk z=>⟨k,(z.1.set (z.1.dl S.doms) _).set (z.1.dl S.firsts) _,z.2⟩,S.ab,S.at_,S.am,S.bt,S.bm,S.tm⟩,
  (Fm.refl.set (.inl (.inr (.inl rfl))) _).set (.inl (.inr (.inr (.inl rfl)))) _,λξ q=>.inl q,rfl⟩
structure Stp(w:W)(s:Nat)(g:List (Nat×V))(d:hW)(w':W):Prop where
 ns:At w' s (.ns g)
 new:At w' w.next d
 nx:w'.next=w.next+1
 fm:Fm (· = s) w w'
theorem Stp.keep{s n:Nat}{g:List (Nat×V)}{d e:hW}{w w':W}(z:Stp w s g d w')(h:At w n e)(q:n≠s):At w' n e:=z.fm.keep n e q h
theorem Stp.mk'{s:Nat}{f g:List (Nat×V)}{d:hW}{w:W}(h:At w s (.ns f)):Stp w s g d ((w.add d).set s (.ns g)):=⟨(h.add _).put _,(At.new _ _).set (cP h.lt) _,rfl,((Fm.refl (M:=(· = s))).add _).set (.inl rfl) _⟩
structure Stq(w:W)(s:Nat)(g:List (Nat×V))(w':W):Prop where
 ns:At w' s (.ns g)
 nx:w'.next=w.next
 fm:Fm (· = s) w w'
theorem Stq.keep{s n:Nat}{g:List (Nat×V)}{e:hW}{w w':W}(z:Stq w s g w')(h:At w n e)(q:n≠s):At w' n e:=z.fm.keep n e q h
theorem Stq.mk'{s:Nat}{f g:List (Nat×V)}{w:W}(h:At w s (.ns f)):Stq w s g (w.set s (.ns g)):=⟨h.put _,rfl,(Fm.refl (M:=(· = s))).set (.inl rfl) _⟩
theorem okN{α:Type}{o:Option α}{x:α}{K Q:α→Prop}(h:o=some x)(q:Q x)(k:∀x,Q x→K x):Option.rec (motive:=λξ=>Prop) False K o:=by rw[h];exact k x q
end
section
variable{G:List Int}{C:Cl}{w:W}{K:Kv}
theorem KH:xC (gR G C):=λc σ d hd h1 h2 w K S k=>by
 have T:=gU.dom S d
 have S1:=S.firsts.set S.ab.symm (.list (σ.doms.map dV++[dV d]))
 refine⟨rfl,ok (fld S.ns (by decide) rfl rfl) (ok (fQ S.doms) (ok (fQ S.doms) (ok (gZ S.doms (by rw[aA];exact h1)) ?_)))⟩
 refine ok (fld (S.ns.set (S.ns.nl S.doms) _) (by decide) rfl rfl) (ok (fQ S1) (ok (fQ S1) (ok (gZ S1 (by rw[aA];exact h2)) ?_)))
 refine ok (Fc _ []) (dF hd (ok (fld T.at_.ns (by decide) rfl rfl) (ok (gJ T.at_.doms) ?_)))
 have e:(((List.map dV (KT σ d).doms).length:Nat):Int)-1=(σ.doms.length:Nat):=by
  show(((List.map dV (σ.doms++[d])).length:Nat):Int)-1=_
  rw[aA,aD,bI];(simp at *;done)
 show K (.int ((((List.map dV (KT σ d).doms).length:Nat):Int)-1)) _
 rw[e];exact k _ _ T
theorem Qk:Dl (gR G C):=λs w K h k=>by
 refine⟨rfl,okN (hY (h.add _) (by decide) (by decide:0<100)) (Stp.mk' h) λw1 z1=>okN (hY (z1.ns.add _) (by decide) (by decide:1<100)) (Stp.mk' z1.ns) λw2 z2=>okN (hY (z2.ns.add _) (by decide) (by decide:2<100)) (Stp.mk' z2.ns) λw3 z3 =>
  okN (hY (z3.ns.add _) (by decide) (by decide:3<100)) (Stp.mk' z3.ns) λw4 z4=>okN (hY (z4.ns.add _) (by decide) (by decide:4<100)) (Stp.mk' z4.ns) λw5 z5=>okN (hY z5.ns (by decide) (by decide:5<100)) (Stq.mk' z5.ns) λw6 z6 =>
  okN (hY z6.ns (by decide) (by decide:6<100)) (Stq.mk' z6.ns) λw7 z7=>okN (hY z7.ns (by decide) (by decide:7<100)) (Stq.mk' z7.ns) λw8 z8=>?_⟩
 have g {n e} (q:n≠s) (k:At w5 n e):=z8.keep (z7.keep (z6.keep k q) q) q
 have l:=h.lt
 have n1:=z1.nx
 have n2:=z2.nx
 have n3:=z3.nx
 have n4:=z4.nx
 have q0:w.next≠s:=by exact cP l
 have l1:s<w1.next:=n1▸bD l
 have l2:s<w2.next:=n2▸bD l1
 have l3:s<w3.next:=n3▸bD l2
 have q1:=cP l1
 have q2:=cP l2
 have q3:=cP l3
 have q4:w4.next≠s:=cP (n4▸bD l3)
 have A0:=g q0 (z5.keep (z4.keep (z3.keep (z2.keep z1.new q0) q0) q0) q0)
 have A1:=g q1 (z5.keep (z4.keep (z3.keep z2.new q1) q1) q1)
 have A2:=g q2 (z5.keep (z4.keep z3.new q2) q2)
 have A3:=g q3 (z5.keep z4.new q3)
 have A4:=g q4 z5.new
 have d01:w.next≠w1.next:=by simp[*]
 have d02:w.next≠w2.next:=by simp +arith [*]
 have d03:w.next≠w3.next:=by simp +arith [*]
 have d12:w1.next≠w2.next:=by exact bG (aM (bH (id (Eq.symm n2))) Nat.le.refl)
 have d13:w1.next≠w3.next:=by simp +arith [*]
 have d23:w2.next≠w3.next:=by exact bG (aM (bH (id (Eq.symm n3))) Nat.le.refl)
 refine k _ ⟨s,w.next,w1.next,w2.next,w3.next,w4.next⟩ ⟨z8.ns,A0,A1,A2,A3,⟨[],A4,aO _⟩,d01,d02,d03,d12,d13,d23⟩ rfl (z1.fm.trans (z2.fm.trans (z3.fm.trans (z4.fm.trans (z5.fm.trans (z6.fm.trans (z7.fm.trans z8.fm))))))) ?_
 intro n hn
 rcases hn with rfl | rfl | rfl | rfl | rfl | rfl
 ·exact .inl rfl
 all_goals exact .inr (by dsimp only;simp +arith [*])
end
noncomputable abbrev Et:=Nat×Int×Int
noncomputable abbrev ks(cs:List Et):List Nat:=cs.map (·.1)
noncomputable def BO(mv lf:Int)(cs:List Et)(o:Nat):List Et:=if o∈ks cs then cs else cs++[(o,mv,lf)]
noncomputable def rT(mv lf:Int)(cs:List Et)(os:List Nat):List Et:=os.foldl (BO mv lf) cs
section
variable{mv lf:Int}{cs:List Et}{os:List Nat}{o:Nat}
theorem PY:o∈ks (BO mv lf cs o):=by
 unfold BO
 by_cases h:o∈ks cs
 ·rw[if_pos h];exact h
 ·rw[if_neg h];simp[ks]
theorem PU{a:Nat}(h:a∈ks cs):a∈ks (BO mv lf cs o):=by
 unfold BO
 by_cases q:o∈ks cs
 ·rw[if_pos q];exact h
 ·rw[if_neg q];simp only[ks,aI,bQ];exact .inl h
theorem PZ{Q:List Et→Prop}(h:Q cs)(s:o∉ks cs→Q (cs++[(o,mv,lf)])):Q (BO mv lf cs o):=by
 unfold BO
 by_cases q:o∈ks cs
 ·rw[if_pos q];exact h
 ·rw[if_neg q];exact s q
theorem wY{Q:List Et→Prop}:∀(os:List Nat) {cs:List Et},Q cs→(∀cs o,Q cs→o∈os→o∉ks cs→Q (cs++[(o,mv,lf)]))→Q (rT mv lf cs os)
 |[],_,h,_=>h
 |o::os,_,h,s=>wY os (PZ h λq=>s _ o h aZ q) λcs o h m q=>s cs o h (bA _ m) q
theorem wX:∀(os:List Nat) {cs:List Et} {a:Nat},a∈ks cs→a∈ks (rT mv lf cs os)
 |[],_,_,h=>h
 |o::os,_,_,h=>wX os (PU h)
theorem CQ:∀(os:List Nat) {cs:List Et} {a:Nat},a∈os→a∈ks (rT mv lf cs os)
 |[],_,_,h=>nomatch h
 |o::os,_,a,h=>by
  rcases bJ.mp h with rfl | h
  ·exact wX os PY
  ·exact CQ os h
end
noncomputable def mAt(at_:List Int)(o:Nat):List Nat:=(aX at_.length).filter λk=>decide (at_[k]?=some (o:Int))
theorem nE{at_:List Int}{o k:Nat}:k∈mAt at_ o↔at_[k]?=some (o:Int):=by
 unfold mAt
 rw[bX,cK,decide_eq_true_iff]
 exact⟨λh=>h.2,λh=>⟨(aB.mp h).1,h⟩⟩
noncomputable def ring(able:List (List Nat))(ms:List Nat)(here:Int)(cs:List Et):List Et:=ms.foldl (λcs (mv:Nat)=>rT mv here cs (able.getD mv [])) cs
section
variable{able:List (List Nat)}{here:Int}
theorem zU{Q:List Et→Prop}:∀(ms:List Nat) {cs:List Et},Q cs→(∀cs (mv o:Nat),Q cs→mv∈ms→o∈able.getD mv []→o∉ks cs→Q (cs++[(o,(mv:Int),here)]))→Q (ring able ms here cs)
 |[],_,h,_=>h
 |m::ms,_,h,s=>zU ms (wY _ h λcs o h q z=>s cs m o h aZ q z) λcs mv o h q=>s cs mv o h (bA _ q)
theorem EX:∀(ms:List Nat) {cs:List Et} {a:Nat},a∈ks cs→a∈ks (ring able ms here cs)
 |[],_,_,h=>h
 |m::ms,_,_,h=>EX ms (wX _ h)
theorem EY:∀(ms:List Nat) {cs:List Et} {mv a:Nat},mv∈ms→a∈able.getD mv []→a∈ks (ring able ms here cs)
 |[],_,_,_,h,_=>nomatch h
 |m::ms,_,mv,a,h,q=>by
  rcases bJ.mp h with rfl | h
  ·exact EX ms (CQ _ q)
  ·exact EY ms h q
end
structure Pg where
 able:List (List Nat)
 lows:List Int
 highs:List Int
structure Pg.Ok(P:Pg):Prop where
 len:P.highs.length=P.lows.length
 lt:∀l∈P.able,∀o∈l,o<P.lows.length
 nodup:∀l∈P.able,l.Nodup
 small:P.lows.length<60
 few:P.able.length<100
noncomputable def hi(P:Pg)(o:Nat):Int:=P.highs.getD o 0
noncomputable def lo(P:Pg)(o:Nat):Int:=P.lows.getD o 0
noncomputable abbrev cn(at_:List Int)(o:Nat):Int:=(at_.count (o:Int):Nat)
noncomputable abbrev ab(P:Pg)(k:Nat):List Nat:=P.able.getD k []
structure oH(P:Pg)(at_:List Int)(j:Nat):Prop where
 len:at_.length=P.able.length
 on:∀k,k<j→∃o∈ab P k,at_[k]?=some (o:Int)
 off:∀k,j≤k→k<at_.length→at_[k]?=some (-1)
 hi:∀o,o<P.lows.length→cn at_ o≤hi P o
structure PlI(P:Pg)(at_:List Int)(mem spot:Nat)(cs:List Et):Prop where
 nodup:(ks cs).Nodup
 ent:∀(i:Nat) (e:Et),cs[i]?=some e→∃mv:Nat,e.2.1=mv∧mv<P.able.length∧e.1∈ab P mv∧((e.2.2=-1∧mv=mem)∨∃(j:Nat) (f:Et),j<i∧cs[j]?=some f∧e.2.2=(f.1:Nat)∧at_[mv]?=some (f.1:Int))
 closed:∀(i:Nat) (e:Et),i<spot→cs[i]?=some e→Mine.hi P e.1≤cn at_ e.1∧∀k,at_[k]?=some (e.1:Int)→∀o∈ab P k,o∈ks cs
 base:∀o∈ab P mem,o∈ks cs
section
variable{P:Pg}{at_:List Int}{mem spot:Nat}{cs:List Et}
theorem tE(O:P.Ok){k o:Nat}(h:o∈ab P k):o<P.lows.length:=by
 unfold ab at h
 rw[aL] at h
 cases q:P.able[k]? with
 |none=>rw[q] at h;cases h
 |some l=>rw[q] at h;exact O.lt l (aF q) o h
theorem jH:∀{n:Nat} {l:List Nat},l.Nodup→(∀o∈l,o<n)→l.length≤n
 |0,l,_,q=>by
  cases l with
  |nil=>exact aO _
  |cons a l=>exact absurd (q a aZ) (cU _)
 |n+1,l,h,q=>by
  have g:=jH (n:=n) (h.erase n) λo ho=>by
   have:=(h.mem_erase_iff).mp ho
   exact fF (eG (q o this.2)) this.1
  by_cases z:n∈l
  ·rw[List.length_erase_of_mem z] at g;exact Nat.le_add_of_sub_le g
  ·rw[List.erase_of_not_mem z] at g;exact dN g
theorem PlI.lt(h:PlI P at_ mem spot cs)(O:P.Ok){o:Nat}(q:o∈ks cs):o<P.lows.length:=by
 obtain⟨e,he,rfl⟩:=bL.mp q
 obtain⟨i,hi,hg⟩:=cQ he
 obtain⟨mv,_,_,m,_⟩:=h.ent i e (by rw[aC hi,hg])
 exact tE O m
theorem PlI.le(h:PlI P at_ mem spot cs)(O:P.Ok):cs.length≤P.lows.length:=by
 have:=jH h.nodup λo q=>h.lt O q
 rwa [aA] at this
theorem PlI.step(h:PlI P at_ mem spot cs)(hl:at_.length=P.able.length){e:Et}(he:cs[spot]?=some e)(hf:hi P e.1≤cn at_ e.1):PlI P at_ mem (spot+1) (ring P.able (mAt at_ e.1) (e.1:Nat) cs):=by
 have key:PlI P at_ mem spot (ring P.able (mAt at_ e.1) (e.1:Nat) cs)∧(ring P.able (mAt at_ e.1) (e.1:Nat) cs)[spot]?=some e:=by
  refine zU (Q:=λcs=>PlI P at_ mem spot cs∧cs[spot]?=some e) _ ⟨h,he⟩ λcs mv o ⟨h,he⟩ hm ho hn=>?_
  have hs:spot<cs.length:=(aB.mp he).1
  have up:∀{i x},cs[i]?=some x→(cs++[(o,(mv:Int),((e.1:Nat):Int))])[i]?=some x:=λ{i x} q=>by rw[aJ (aB.mp q).1];exact q
  have sub:∀{a},a∈ks cs→a∈ks (cs++[(o,(mv:Int),((e.1:Nat):Int))]):=λq=>by simp only[ks,aI,bQ];exact .inl q
  refine⟨⟨?_,λi x hx=>?_,λi x hi hx=>?_,λo q=>sub (h.base o q)⟩,up he⟩
  ·simp only[ks,aI,aY,List.map_nil]
   exact dI.mpr ⟨h.nodup,by simp,λa ha b hb=>by rw[aG.mp hb];exact λq=>hn (q▸ha)⟩
  ·by_cases q:i<cs.length
   ·rw[aJ q] at hx
    obtain⟨mv,a,l,b,c⟩:=h.ent i x hx
    exact⟨mv,a,l,b,c.imp id λz=>by obtain⟨j,f,c1,c2,c3⟩:=z;exact⟨j,f,c1,up c2,c3⟩⟩
   ·have hi:i=cs.length:=mH hx q
    subst hi
    rw[bP (aO _),eM] at hx
    obtain rfl:(o,(mv:Int),((e.1:Nat):Int))=x:=Option.some.inj hx
    have hat:=nE.mp hm
    exact⟨mv,rfl,hl▸(aB.mp hat).1,ho,.inr ⟨spot,e,hs,up he,rfl,hat⟩⟩
  ·rw[aJ (cO hi hs)] at hx
   exact(h.closed i x hi hx).imp id λz k q o ho=>sub (z k q o ho)
 refine⟨key.1.nodup,key.1.ent,λi x hi hx=>?_,key.1.base⟩
 rcases bO.mp hi with hi | rfl
 ·exact key.1.closed i x hi hx
 ·rw[key.2] at hx
  obtain rfl:=Option.some.inj hx
  exact⟨hf,λk hk o ho=>EY _ (nE.mpr hk) ho⟩
theorem PlI.zero(O:P.Ok)(hm:mem<P.able.length):PlI P at_ mem 0 ((ab P mem).map λo=>(o,((mem:Nat):Int),-1)):=by
 have ek:ks ((ab P mem).map λo=>(o,((mem:Nat):Int),-1))=ab P mem:=by simp only[ks,cL];exact List.map_id _
 refine⟨?_,λi e he=>?_,λi e h=>absurd h (cU _),λo ho=>by rw[ek];exact ho⟩
 ·rw[ek];unfold ab
  rw[aL,aC hm];exact O.nodup _ (List.getElem_mem hm)
 ·obtain⟨o,ho,rfl⟩:=kW he
  exact⟨mem,rfl,hm,aF ho,.inl ⟨rfl,rfl⟩⟩
end
noncomputable abbrev dl(a b:Int):Int:=if a=b then 1 else 0
theorem JR(a o:Int):((if(a==o)=true then 1 else 0:Nat):Int)=dl a o:=by
 unfold dl
 by_cases q:a=o
 ·rw[if_pos (beq_iff_eq.mpr q),if_pos q];rfl
 ·rw[if_neg λh=>q (beq_iff_eq.mp h),if_neg q];rfl
theorem JQ:∀{l:List Int} {k:Nat} {a:Int} (b o:Int),l[k]?=some a→(((l.set k b).count o:Nat):Int)+dl a o=((l.count o:Nat):Int)+dl b o
 |[],_,_,_,_,h=>nomatch h
 |x::l,0,a,b,o,h=>by
  obtain rfl:x=a:=Option.some.inj h
  rw[List.set_cons_zero,eU,eU,Int.natCast_add,Int.natCast_add,JR,JR,fI]
 |x::l,k+1,a,b,o,h=>by
  have:=JQ (l:=l) (k:=k) b o h
  rw[List.set_cons_succ,eU,eU,Int.natCast_add,Int.natCast_add,fI,this,fI]
theorem Ai{l:List Int}{k:Nat}{a:Int}(b:Int)(o:Nat)(h:l[k]?=some a):cn (l.set k b) o+dl a o=cn l o+dl b o:=JQ b o h
theorem DH{cs:List Et}(h:(ks cs).Nodup){i j:Nat}{e f:Et}(hi:cs[i]?=some e)(hj:cs[j]?=some f)(q:e.1=f.1):i=j:=by
 have li:=(aB.mp hi).1
 refine(List.getElem?_inj (by rw[aA];exact li) h).mp ?_
 rw[aK,aK,hi,hj];exact congrArg some q
structure FlC(P:Pg)(at_:List Int)(mem:Nat)(at2:List Int):Prop where
 len:at2.length=at_.length
 on:∀k:Nat,at2[k]?=at_[k]?∨((∃o∈ab P k,at2[k]?=some (o:Int))∧(k=mem∨∃o:Nat,at_[k]?=some (o:Int)))
noncomputable def FlS(P:Pg)(at_:List Int)(mem:Nat)(cs:List Et)(o0:Nat):Nat→Int→List Int→Prop
 |0,here,at2=>here=-1∧(∃o∈ab P mem,at2[mem]?=some (o:Int))∧∀o:Nat,cn at2 o=cn at_ o+dl (o0:Nat) o
 |i+1,here,at2=>∃e:Et,cs[i]?=some e∧here=(e.1:Nat)∧(∀(j:Nat) (f:Et) (mv:Nat),j≤i→cs[j]?=some f→f.2.1=(mv:Int)→at2[mv]?=at_[mv]?)∧∀o:Nat,cn at2 o+dl (e.1:Nat) o=cn at_ o+dl (o0:Nat) o
section
variable{P:Pg}{at_ at2:List Int}{mem spot i o0:Nat}{cs:List Et}{here:Int}
theorem FlC.refl:FlC P at_ mem at_:=⟨rfl,λξ=>.inl rfl⟩
theorem Rm{e:Et}(he:cs[i]?=some e):FlS P at_ mem cs e.1 (i+1) (e.1:Nat) at_:=⟨e,he,rfl,λξ ξ ξ ξ ξ ξ=>rfl,λξ=>rfl⟩
inductive FlT(P:Pg)(at_:List Int)(mem:Nat)(cs:List Et)(o0 i:Nat)(here:Int)(at2:List Int):Prop
 |mk (e:Et) (mv:Nat) (y:Nat):e∈cs→here=(e.1:Nat)→e.2.1=(mv:Int)→mv<at2.length→y<i+1→FlC P at_ mem (at2.set mv (e.1:Nat))→FlS P at_ mem cs o0 y e.2.2 (at2.set mv (e.1:Nat))→FlT P at_ mem cs o0 i here at2
theorem Ro(I:PlI P at_ mem spot cs)(hl:at_.length=P.able.length)(hm:at_[mem]?=some (-1))(c:FlC P at_ mem at2)(h:FlS P at_ mem cs o0 (i+1) here at2):FlT P at_ mem cs o0 i here at2:=by
 obtain⟨e,he,h1,ha,hc⟩:=h
 obtain⟨mv,h2,h3,h4,h5⟩:=I.ent i e he
 have hv:=ha i e mv (aO _) he h2
 have hlt:mv<at2.length:=by rw[c.len,hl];exact h3
 have put:(at2.set mv (e.1:Nat))[mv]?=some ((e.1:Nat):Int):=by rw[cJ hlt]
 have cc:FlC P at_ mem (at2.set mv (e.1:Nat)):=⟨by rw[bR];exact c.len,λk=>by
  by_cases q:mv=k
  ·subst q
   exact .inr ⟨⟨e.1,h4,put⟩,h5.elim (λz=>.inl z.2) λz=>by obtain⟨_,f,_,_,_,z⟩:=z;exact .inr ⟨f.1,z⟩⟩
  ·rw[cB q];exact c.on k⟩
 rcases h5 with⟨h5,rfl⟩ | ⟨j,f,hj,hf,h5,h6⟩
 ·refine⟨e,mv,0,aF he,h1,h2,hlt,fM _,cc,h5,⟨e.1,h4,put⟩,λo=>?_⟩
  have:=Ai (e.1:Nat) o (hv.trans hm)
  have:=hc o
  have z:dl (-1) (o:Int)=0:=if_neg (by(simp at *;done))
  simp_all
 ·refine⟨e,mv,j+1,aF he,h1,h2,hlt,Nat.succ_lt_succ hj,cc,⟨f,hf,h5,λj2 g m2 l2 g2 e2=>?_,λo=>?_⟩⟩
  ·have q:mv≠m2:=by
    rintro rfl
    obtain⟨m3,h7,_,_,h8⟩:=I.ent j2 g g2
    have:m3=mv:=by rw[e2] at h7;exact(dS.mp h7).symm
    subst this
    rcases h8 with⟨_,rfl⟩ | ⟨j3,g3,l3,g4,_,h9⟩
    ·rw[hm] at h6;have:=Option.some.inj h6;simp_all
    ·rw[h6] at h9
     have:=DH I.nodup hf g4 (by have:=Option.some.inj h9;lia)
     exact bG (aM l3 l2) (id (Eq.symm this))
   rw[cB q];exact ha j2 g m2 (by exact aE l2 (bW hj)) g2 e2
  ·have:=Ai (e.1:Nat) o (hv.trans h6)
   have:=hc o
   simp +arith [*]
theorem Rp(O:oH P at_ mem)(hm:mem<P.able.length)(c:FlC P at_ mem at2)(h:FlS P at_ mem cs o0 0 here at2)(hr:cn at_ o0<hi P o0):oH P at2 (mem+1) where
 len:=c.len.trans O.len
 on k hk:=by
  rcases c.on k with q | q
  ·rcases bO.mp hk with hk | rfl
   ·rw[q];exact O.on k hk
   ·exact h.2.1
  ·exact q.1
 off k hk hl:=by
  rw[c.len] at hl
  have:=O.off k (by exact aE (bW hk) (bH rfl)) hl
  rcases c.on k with q | ⟨_,q | ⟨o,q⟩⟩
  ·rw[q];exact this
  ·exact False.elim (bG hk (id (Eq.symm q)))
  ·rw[q] at this;have:=Option.some.inj this;simp_all
 hi o ho:=by
  have:=h.2.2 o
  have:=O.hi o ho
  by_cases q:o0=o
  ·subst q;have:dl (o0:Int) o0=1:=if_pos rfl;lia
  ·have:dl (o0:Int) o=0:=if_neg (by lia);simp +arith [*]
end
structure FiI(P:Pg)(at_:List Int)(wn spot:Nat)(cs:List Et):Prop where
 nodup:(ks cs).Nodup
 head:cs[0]?=some (wn,-1,-1)
 ent:∀(i:Nat) (e:Et),cs[i]?=some e→(i=0)∨∃(mv j:Nat) (f:Et),e.2.1=mv∧mv<P.able.length∧j<i∧cs[j]?=some f∧e.2.2=(f.1:Nat)∧at_[mv]?=some (e.1:Int)∧f.1∈ab P mv
 low:∀e∈cs,e.1≠wn→cn at_ e.1≤lo P e.1
 closed:∀(i:Nat) (e:Et),i<spot→cs[i]?=some e→∀k,e.1∈ab P k→∃o∈ks cs,at_[k]?=some (o:Int)
section
variable{P:Pg}{at_ at2:List Int}{wn spot i o0:Nat}{cs:List Et}{here:Int}
theorem FiI.zero:FiI P at_ wn 0 [(wn,-1,-1)] where
 nodup:=by simp[ks]
 head:=rfl
 ent i e h:=by
  cases i with
  |zero=>exact .inl rfl
  |succ i=>cases h
 low e h q:=absurd (by rw[aG.mp h]) q
 closed i e h:=absurd h (cU _)
theorem FiI.pre(I:FiI P at_ wn spot cs)(hl:at_.length=P.able.length){e:Et}(he:cs[spot]?=some e){mv o:Nat}(ha:at_[mv]?=some (o:Int))(hi:e.1∈ab P mv)(hn:o∉ks cs) :
  (ks (cs++[(o,(mv:Int),((e.1:Nat):Int))])).Nodup∧(∀(i:Nat) (x:Et),(cs++[(o,(mv:Int),((e.1:Nat):Int))])[i]?=some x→(i=0)∨∃(mv2 j:Nat) (f:Et),x.2.1=mv2∧mv2<P.able.length∧j<i∧(cs++[(o,(mv:Int),((e.1:Nat):Int))])[j]?=some f∧x.2.2=(f.1:Nat)∧at_[mv2]?=some (x.1:Int)∧f.1∈ab P mv2)∧(∀(i:Nat) (x:Et),cs[i]?=some x→(cs++[(o,(mv:Int),((e.1:Nat):Int))])[i]?=some x):=by
 have up:∀(i:Nat) (x:Et),cs[i]?=some x→(cs++[(o,(mv:Int),((e.1:Nat):Int))])[i]?=some x:=λi x q=>by rw[aJ (aB.mp q).1];exact q
 have hs:spot<cs.length:=(aB.mp he).1
 refine⟨?_,λi x hx=>?_,up⟩
 ·simp only[ks,aI,aY,List.map_nil]
  exact dI.mpr ⟨I.nodup,by simp,λa ha b hb=>by rw[aG.mp hb];exact λq=>hn (q▸ha)⟩
 ·by_cases q:i<cs.length
  ·rw[aJ q] at hx
   exact(I.ent i x hx).imp id λz=>by obtain⟨m,j,f,a,b,c,d,g⟩:=z;exact⟨m,j,f,a,b,c,up _ _ d,g⟩
  ·have hi2:i=cs.length:=mH hx q
   subst hi2
   rw[bP (aO _),eM] at hx
   obtain rfl:(o,(mv:Int),((e.1:Nat):Int))=x:=Option.some.inj hx
   exact .inr ⟨mv,spot,e,rfl,hl▸(aB.mp ha).1,hs,up _ _ he,rfl,ha,hi⟩
theorem FiI.add(I:FiI P at_ wn spot cs)(hl:at_.length=P.able.length){e:Et}(he:cs[spot]?=some e){mv o:Nat}(ha:at_[mv]?=some (o:Int))(hi:e.1∈ab P mv)(hn:o∉ks cs)(hlow:cn at_ o≤lo P o):FiI P at_ wn spot (cs++[(o,(mv:Int),((e.1:Nat):Int))]):=by
 obtain⟨a,b,up⟩:=I.pre hl he ha hi hn
 refine⟨a,up _ _ I.head,b,λx hx q=>?_,λi x hi hx k hk=>?_⟩
 ·rcases bQ.mp hx with hx | hx
  ·exact I.low x hx q
  ·rw[aG.mp hx];exact hlow
 ·have hs:spot<cs.length:=(aB.mp he).1
  rw[aJ (cO hi hs)] at hx
  obtain⟨o2,h2,h3⟩:=I.closed i x hi hx k hk
  exact⟨o2,by simp only[ks,aI,bQ];exact .inl h2,h3⟩
noncomputable def MvS(P:Pg)(at_:List Int)(cs:List Et)(o0 i:Nat)(op:Nat)(at2:List Int):Prop:=
 ∃e:Et,cs[i]?=some e∧op=e.1∧(∀(j:Nat) (f:Et) (mv:Nat),j≤i→cs[j]?=some f→f.2.1=(mv:Int)→at2[mv]?=at_[mv]?)∧(∀o:Nat,cn at2 o+dl (o0:Nat) o=cn at_ o+dl (e.1:Nat) o)∧at2.length=at_.length∧∀k:Nat,at2[k]?=at_[k]?∨∃o∈ab P k,at2[k]?=some (o:Int)
structure MvC(P:Pg)(at_:List Int)(wn:Nat)(cs:List Et):Prop where
 len:at_.length=P.able.length
 nodup:(ks cs).Nodup
 head:cs[0]?=some (wn,-1,-1)
 ent:∀(i:Nat) (e:Et),cs[i]?=some e→(i=0)∨∃(mv j:Nat) (f:Et),e.2.1=mv∧mv<P.able.length∧j<i∧cs[j]?=some f∧e.2.2=(f.1:Nat)∧at_[mv]?=some (e.1:Int)∧f.1∈ab P mv
inductive MvT(P:Pg)(at_:List Int)(cs:List Et)(o0 i op:Nat)(at2:List Int):Prop
 |mk (e:Et) (mv y o2:Nat):e∈cs→op=e.1→e.2.1=(mv:Int)→e.2.2=(o2:Int)→mv<at2.length→y<i→MvS P at_ cs o0 y o2 (at2.set mv (o2:Nat))→MvT P at_ cs o0 i op at2
theorem Id{e:Et}(he:cs[i]?=some e):MvS P at_ cs e.1 i e.1 at_:=⟨e,he,rfl,λξ ξ ξ ξ ξ ξ=>rfl,λξ=>rfl,rfl,λξ=>.inl rfl⟩
theorem NK(I:MvC P at_ wn cs){op:Nat}(h:MvS P at_ cs o0 i op at2)(q:op=wn):i=0∧∀o:Nat,cn at2 o+dl (o0:Nat) o=cn at_ o+dl (wn:Nat) o:=by
 obtain⟨e,he,rfl,_,hc,_⟩:=h
 rw[←q]
 exact⟨DH I.nodup he I.head q,hc⟩
theorem Ig(I:MvC P at_ wn cs){op:Nat}(h:MvS P at_ cs o0 i op at2)(q:op≠wn):MvT P at_ cs o0 i op at2:=by
 obtain⟨e,he,rfl,ha,hc,hl,hon⟩:=h
 rcases I.ent i e he with rfl | ⟨mv,j,f,h2,h3,hj,hf,h5,h6,h7⟩
 ·rw[I.head] at he;exact absurd (by rw[←Option.some.inj he]) q
 have hv:=ha i e mv (aO _) he h2
 have hlt:mv<at2.length:=by rw[hl,I.len];exact h3
 refine⟨e,mv,j,f.1,aF he,rfl,h2,h5,hlt,hj,⟨f,hf,rfl,λj2 g m2 l2 g2 e2=>?_,λo=>?_,by rw[bR];exact hl,λk=>?_⟩⟩
 ·have q:mv≠m2:=by
   rintro rfl
   rcases I.ent j2 g g2 with rfl | ⟨m3,j3,f3,h8,_,_,_,_,h9,_⟩
   ·rw[I.head] at g2
    rw[←Option.some.inj g2] at e2
    have e2:(-1:Int)=(mv:Nat):=e2
    (simp at *;done)
   ·have:m3=mv:=by rw[e2] at h8;exact(dS.mp h8).symm
    subst this
    rw[h6] at h9
    have:=DH I.nodup he g2 (by have:=Option.some.inj h9;lia)
    lia
  rw[cB q];exact ha j2 g m2 (by exact aE l2 (bW hj)) g2 e2
 ·have:=Ai (f.1:Nat) o (hv.trans h6)
  have:=hc o
  lia
 ·by_cases q:mv=k
  ·subst q
   exact .inr ⟨f.1,h7,by rw[cJ hlt]⟩
  ·rw[cB q];exact hon k
end
noncomputable abbrev nv(o:Nat):V:=.int (o:Nat)
structure Plc where
 p:Nat
 A:Nat
 L:Nat
 H:Nat
 T:Nat
 N:Nat
 rs:List Nat
noncomputable def plF(c:Plc):List (Nat×V):=[(11,.ref c.A),(12,.ref c.L),(13,.ref c.H),(14,.ref c.T),(15,.ref c.N)]
noncomputable def Plc.M(c:Plc)(n:Nat):Prop:=n=c.T∨n=c.N
structure iQ(w:W)(P:Pg)(c:Plc)(at_ cs:List Int):Prop where
 ns:At w c.p (.ns (plF c))
 able:At w c.A (.list (c.rs.map .ref))
 row:∀k,k<P.able.length→∃r,c.rs[k]?=some r∧¬c.M r∧At w r (.list ((ab P k).map nv))
 lows:At w c.L (.list (P.lows.map .int))
 highs:At w c.H (.list (P.highs.map .int))
 at_:At w c.T (.list (at_.map .int))
 counts:At w c.N (.list (cs.map .int))
 tn:c.T≠c.N
 am:¬c.M c.A
 lm:¬c.M c.L
 hm:¬c.M c.H
section
variable{w w':W}{P:Pg}{c:Plc}{at_ cs:List Int}
theorem iQ.pm(h:iQ w P c at_ cs):¬c.M c.p:=λq=>q.elim (h.ns.nl h.at_) (h.ns.nl h.counts)
theorem iQ.keep(h:iQ w P c at_ cs)(f:Fm0 w w'):iQ w' P c at_ cs:=
 ⟨f.at h.ns,f.at h.able,λk q=>(h.row k q).imp λr z=>⟨z.1,z.2.1,f.at z.2.2⟩,f.at h.lows,f.at h.highs,f.at h.at_,f.at h.counts,h.tn,h.am,h.lm,h.hm⟩
theorem iQ.turn(h:iQ w P c at_ cs){at2 cs2:List Int}(f:Fm c.M w w')(a:At w' c.T (.list (at2.map .int)))(b:At w' c.N (.list (cs2.map .int))):iQ w' P c at2 cs2:=
 ⟨f.keep _ _ h.pm h.ns,f.keep _ _ h.am h.able,λk q=>(h.row k q).imp λr z=>⟨z.1,z.2.1,f.keep _ _ z.2.1 z.2.2⟩,f.keep _ _ h.lm h.lows,f.keep _ _ h.hm h.highs,a,b,h.tn,h.am,h.lm,h.hm⟩
theorem iQ.setT(h:iQ w P c at_ cs)(at2:List Int):iQ (w.set c.T (.list (at2.map .int))) P c at2 cs:=h.turn ((Fm.refl (M:=c.M)).set (.inl (.inl rfl)) _) (h.at_.put _) (h.counts.set h.tn.symm _)
theorem iQ.setN(h:iQ w P c at_ cs)(cs2:List Int):iQ (w.set c.N (.list (cs2.map .int))) P c at_ cs2:=h.turn ((Fm.refl (M:=c.M)).set (.inl (.inr rfl)) _) (h.at_.set h.tn _) (h.counts.put _)
end
noncomputable def ctL(at_:List Int)(m:Nat):List Int:=(aX m).map λo=>cn at_ o
theorem kF{at_:List Int}{m o:Nat}(h:o<m):(ctL at_ m)[o]?=some (cn at_ o):=by
 unfold ctL;rw[aK,cI h];rfl
theorem mL{at_:List Int}{m:Nat}:(ctL at_ m).length=m:=by unfold ctL;rw[aA,aP]
theorem SM{at_ at2:List Int}{m o0:Nat}{x:Int}(h:∀o,o≠o0→cn at2 o=cn at_ o)(q:cn at2 o0=x):(ctL at_ m).set o0 x=ctL at2 m:=by
 apply eX
 intro o
 by_cases l:o<m
 ·by_cases e:o0=o
  ·subst e;rw[cJ (by rw[mL];exact l),kF l,q]
  ·rw[cB e,kF l,kF l,h o λz=>e z.symm]
 ·rw[bN (by rw[bR,mL];simp_all),bN (by rw[mL];simp_all)]
section
variable{w:W}{n:Nat}{kvs:List (Int×V)}
theorem zW{k:Int}{v:V}:∀{l:List (Int×V)},k∉l.map (·.1)→mO k v l=l++[(k,v)]
 |[],_=>rfl
 |p::l,h=>by
  rw[aY,bJ,not_or] at h
  show(if p.1=k then(k,v)::l else p::mO k v l)=_
  rw[if_neg λq=>h.1 q.symm,zW h.2];rfl
theorem FF{l:List (Int×V)}{k:Int}:(l.lookup k).isSome=decide (k∈l.map (·.1)):=by
 induction l with
 |nil=>rfl
 |cons p l ih =>
  rw[dC,aY]
  by_cases q:k=p.1
  ·simp[q]
  ·rw[show(k==p.1)=false from beq_eq_false_iff_ne.mpr q];simp[ih,q]
theorem AA{i:Int}(h:At w n (.dict kvs)):jK .NotIn w (.int i) (.ref n)=some (!decide (i∈kvs.map (·.1))):=by
 show Option.map (!·) ((w.get n).bind λc=>hW.casesOn (motive:=λξ=>Option Bool) c (inL w (.int i)) (λkvs=>(kY (.int i)).map λi=>(kvs.lookup i).isSome) λξ=>none)=_
 rw[h.get]
 show some (!(kvs.lookup i).isSome)=_
 rw[FF]
theorem OR{i:Int}{d:V}(h:At w n (.dict kvs))(q:kvs.lookup i=some d):jF w (.ref n) (.int i)=some d:=by
 show((w.get n).bind λc=>FK c i)=_
 rw[h.get];exact q
theorem SX(l:List Int)(i:Int):((l.map PyData.int).any λy=>PyData.eqv y (.int i))=decide (i∈l):=by
 induction l with
 |nil=>rfl
 |cons a l ih =>
  rw[aY,List.any_cons,ih,kT]
  by_cases q:a=i
  ·simp[q]
  ·have:i≠a:=λz=>q z.symm
   simp[q,this]
theorem Rg{i:Int}{l:List Int}:inL w (.int i) (l.map .int)=some (decide (i∈l)):=by
 have h2:rds (rd w 8) (l.map .int)=some (l.map PyData.int):=uJ l λd ξ=>rfl
 show((rd w 8 (.int i)).bind λp=>(rds (rd w 8) (l.map .int)).map λqs=>qs.any λy=>PyData.eqv y p)=_
 rw[h2,←SX];rfl
theorem DP{i:Int}{l:List Int}(h:At w n (.list (l.map .int))):jK .In w (.int i) (.ref n)=some (decide (i∈l)):=by
 show((w.get n).bind λc=>hW.casesOn (motive:=λξ=>Option Bool) c (inL w (.int i)) (λkvs=>(kY (.int i)).map λi=>(kvs.lookup i).isSome) λξ=>none)=_
 rw[h.get];exact Rg
theorem nS{i:Int}{l:List Int}(h:At w n (.list (l.map .int))):jK .NotIn w (.int i) (.ref n)=some (!decide (i∈l)):=by
 show Option.map (!·) (jK .In w (.int i) (.ref n))=_
 rw[DP h];rfl
theorem nvs(l:List Nat):l.map nv=(l.map λo=>((o:Nat):Int)).map .int:=by rw[cL];rfl
theorem pI{l:List Nat}{o:Nat}:((o:Nat):Int)∈(l.map λo=>((o:Nat):Int))↔o∈l:=bL.trans ⟨λ⟨a,h,q⟩=>dS.mp q▸h,λh=>⟨o,h,rfl⟩⟩
theorem DO{o:Nat}{l:List Nat}(h:At w n (.list (l.map nv))):jK .In w (nv o) (.ref n)=some (decide (o∈l)):=by
 rw[DP (h.cast (nvs l))];exact congrArg some (decide_eq_decide.mpr pI)
theorem Gb{o:Nat}{l:List Nat}(h:At w n (.list (l.map nv))):jK .NotIn w (nv o) (.ref n)=some (!decide (o∈l)):=by
 show Option.map (!·) (jK .In w (nv o) (.ref n))=_
 rw[DO h];rfl
end
theorem aA6(n:Nat):(kN 0 n).map V.int=(aX n).map nv:=by
 unfold kN;rw[cL];exact fB λk ξ=>congrArg V.int (Int.zero_add _)
theorem Giv.nat(J:W→Prop)(n:Nat):Giv J (lP 0 n) ((aX n).map nv):=aA6 n▸Giv.rng J 0 n
theorem lY{n:Nat}(h:n≤1000):jC 0 (n:Nat)=true:=nQ (by lia)
noncomputable def ZF:Fn:=⟨2,2,none,lS⟩
noncomputable def CR(C:Cl):Prop:=∀P c at_ cs o w K,iQ w P c at_ cs→at_.length<100→(∀w' n,Fm0 w w'→w.next≤n→At w' n (.list ((mAt at_ o).map nv))→K (.ref n) w')→C ZF [.obj 1 c.p,nv o] w K
section
variable{G:List Int}{C:Cl}{w:W}{K:Kv}
theorem Xb:CR (gR G C):=λP c at_ cs o w K S hl k=>by
 have e:((at_.map V.int).length:Nat)=at_.length:=aA ..
 refine⟨rfl,ok (fld S.ns (by decide) rfl rfl) (ok (gJ S.at_) (bT (by rw[e];exact lY (by lia)) ?_))⟩
 refine gM (aX at_.length) nv (show Giv _ (lP 0 (at_.map V.int).length) _ by rw[e];exact Giv.nat _ _) (λi=>decide (at_[i]?=some (o:Int))) nv (λi=>[nv i]) (λξ ξ=>rfl) (by rw[aP];have:lim=100000:=rfl;show 0+at_.length≤lim;lia) (λi hi w' h T F t f=>?_) λw' h=>k _ _ (h.add _) h.next (At.new _ _)
 have hi:=cK.mp hi
 have S':=S.keep h
 have eg:(at_.map V.int)[i]?=some (.int at_[i]):=by rw[aK,aC hi];rfl
 refine ok (fld S'.ns (by decide) rfl rfl) (ok (fY S'.at_ eg) (eB (λq=>t _ .refl (decide_eq_true (by rw[aC hi,q]))) λq=>f _ .refl (decide_eq_false λz=>q (by rw[aC hi] at z;exact Option.some.inj z))))
end
noncomputable def uH(l:List Nat):List Nat:=(qM (l.map λo:Nat=>(o:Int))).map Int.toNat
theorem tK(l:List Nat):(uH l).Perm l:=by
 have:=(lW (l.map λo:Nat=>(o:Int))).map Int.toNat
 rw[cL] at this
 exact this.trans (by rw[show(Int.toNat∘λo:Nat=>(o:Int))=id from rfl,List.map_id])
theorem Bc(l:List Nat):(uH l).map nv=(qM (l.map λo:Nat=>(o:Int))).map .int:=by
 unfold uH
 rw[cL]
 refine fB λi hi=>?_
 obtain⟨o,_,rfl⟩:=bL.mp ((lW _).mem_iff.mp hi)
 rfl
theorem xK{w:W}{n:Nat}{l:List Nat}(h:At w n (.list (l.map nv)))(q:l.length<64):wT 5 [.ref n] w=some (.ref w.next,w.add (.list ((uH l).map nv))):=by
 show yM w (.ref n)=_
 unfold yM
 show((w.get n).bind _)=_
 rw[h.get]
 show((jD (l.map nv)).bind λl=>if l.length<64 then some (V.ref w.next,w.add (.list ((qM l).map .int))) else none)=_
 rw[vC (λo:Nat=>(o:Int)) l,cE,if_pos (by rw[aA];exact q),Bc]
noncomputable def kv(e:Et):Int×V:=((e.1:Nat),.tup [.int e.2.1,.int e.2.2])
structure Bq(w₀ w:W)(D R:Nat)(cs:List Et):Prop where
 fm:Fm0 w₀ w
 d:At w D (.dict (cs.map kv))
 r:At w R (.list ((ks cs).map nv))
 ld:w₀.next≤D
 lr:w₀.next≤R
section
variable{w₀ w w':W}{D R:Nat}{cs:List Et}
theorem Bq.post(b:Bq w₀ w D R cs)(f:Fm0 w w'):Bq w₀ w' D R cs:=⟨b.fm.trans f,f.at b.d,f.at b.r,b.ld,b.lr⟩
theorem Iq:(cs.map kv).map (·.1)=(ks cs).map λo=>((o:Nat):Int):=by rw[cL,cL];rfl
theorem Bq.in(b:Bq w₀ w D R cs)(o:Nat):jK .NotIn w (nv o) (.ref D)=some (!decide (o∈ks cs)):=by
 rw[AA b.d,Iq];exact congrArg (λb=>some (!b)) (decide_eq_decide.mpr pI)
theorem Bq.dr(b:Bq w₀ w D R cs):D≠R:=b.d.dl b.r
theorem RB{e:Et}(h:e.1∉ks cs):mO (e.1:Int) (.tup [.int e.2.1,.int e.2.2]) (cs.map kv)=(cs++[e]).map kv:=by
 rw[zW (by rw[Iq];exact λq=>h (pI.mp q)),aI];rfl
theorem Bq.add(b:Bq w₀ w D R cs){e:Et}(h:e.1∉ks cs):Bq w₀ ((w.set D (.dict (mO (e.1:Int) (.tup [.int e.2.1,.int e.2.2]) (cs.map kv)))).set R (.list ((ks cs).map nv++[nv e.1]))) D R (cs++[e]):=
 ⟨(b.fm.set (.inr b.ld) _).set (.inr b.lr) _,RB h▸(b.d.put _).set b.dr _,((b.r.set b.dr.symm _).put _).cast (by simp[ks]),b.ld,b.lr⟩
theorem Bq.r1(b:Bq w₀ w D R cs)(d:hW):At (w.set D d) R (.list ((ks cs).map nv)):=b.r.set b.dr.symm _
theorem Ip(d:At w D (.dict (cs.map kv)))(hn:(ks cs).Nodup){e:Et}(h:e∈cs):jF w (.ref D) (nv e.1)=some (.tup [.int e.2.1,.int e.2.2]):=by
 refine OR d ?_
 clear d
 induction cs with
 |nil=>cases h
 |cons f cs ih =>
  rw[ks,aY,cZ] at hn
  rw[aY,dC]
  rcases bJ.mp h with rfl | h
  ·rw[show((e.1:Int)==(kv e).1)=true from beq_self_eq_true _];rfl
  ·rw[show((e.1:Int)==(kv f).1)=false from beq_eq_false_iff_ne.mpr λq=>hn.1 ((dS.mp q:e.1=f.1)▸List.mem_map_of_mem h)]
   exact ih hn.2 h
theorem Bq.item(b:Bq w₀ w D R cs){i:Nat}{e:Et}(h:cs[i]?=some e):jF w (.ref R) (nv i)=some (nv e.1):=fY b.r (by rw[aK,aK,h];rfl)
theorem Bq.len(b:Bq w₀ w D R cs):wT 0 [.ref R] w=some (nv cs.length,w):=by rw[gJ b.r,aA,aA]
end
structure Pm(P:Pg)(at_:List Int)(mem:Nat)(R:List Nat):Prop where
 nodup:R.Nodup
 lt:∀o∈R,o<P.lows.length
 base:∀o∈ab P mem,o∈R
 full:∀o∈R,hi P o≤cn at_ o
 closed:∀o∈R,∀k,at_[k]?=some (o:Int)→∀p∈ab P k,p∈R
theorem MO{P:Pg}{at_:List Int}{mem spot:Nat}{cs:List Et}(I:PlI P at_ mem spot cs)(O:P.Ok)(h:cs.length≤spot):Pm P at_ mem (uH (ks cs)):=by
 have p:=tK (ks cs)
 have c:∀o∈ks cs,hi P o≤cn at_ o∧∀k,at_[k]?=some (o:Int)→∀p∈ab P k,p∈ks cs:=λo ho=>by
  obtain⟨e,he,rfl⟩:=bL.mp ho
  obtain⟨i,hi,hg⟩:=cQ he
  exact I.closed i e (by exact aM hi h) (by rw[aC hi,hg])
 exact⟨p.nodup_iff.mpr I.nodup,λo ho=>I.lt O (p.mem_iff.mp ho),λo ho=>p.mem_iff.mpr (I.base o ho),λo ho=>(c o (p.mem_iff.mp ho)).1,λo ho k hk q hq=>p.mem_iff.mpr ((c o (p.mem_iff.mp ho)).2 k hk q hq)⟩
noncomputable def Ru:Fn:=⟨2,9,none,pP⟩
noncomputable def yX(C:Cl):Prop:=∀P c at_ mem w K,P.Ok→iQ w P c at_ (ctL at_ P.lows.length)→oH P at_ mem→mem<P.able.length →
 (∀w' at2,iQ w' P c at2 (ctL at2 P.lows.length)→Fm c.M w w'→oH P at2 (mem+1)→K .none w') →
 (∀w' n R,Fm0 w w'→w.next≤n→At w' n (.list (R.map nv))→Pm P at_ mem R→K (.ref n) w')→C Ru [.obj 1 c.p,nv mem] w K
inductive PwI(P:Pg)(c:Plc)(at_:List Int)(mem:Nat)(w₀:W)(x:List Et×Nat):List V→W→Prop
 |mk (D R:Nat) (a b d e:V) (w:W):Bq w₀ w D R x.1→PlI P at_ mem x.2 x.1→PwI P c at_ mem w₀ x [.obj 1 c.p,nv mem,.ref D,.ref R,nv x.2,a,b,d,e] w
inductive PuI(P:Pg)(c:Plc)(at_:List Int)(mem spot here:Nat)(w₀:W)(D R n:Nat)(cs:List Et)(e:V)(j:Nat):List V→W→Prop
 |mk (a d:V) (w:W):At w n (.list ((mAt at_ here).map nv))→Bq w₀ w D R (ring P.able ((mAt at_ here).take j) (here:Nat) cs)→PuI P c at_ mem spot here w₀ D R n cs e j [.obj 1 c.p,nv mem,.ref D,.ref R,nv spot,a,nv here,d,e] w
inductive PvI(P:Pg)(c:Plc)(at_:List Int)(mem spot here:Nat)(w₀:W)(D R n:Nat)(cs:List Et)(e:V)(mv:Nat)(j:Nat):List V→W→Prop
 |mk (a:V) (w:W):At w n (.list ((mAt at_ here).map nv))→Bq w₀ w D R (rT (mv:Nat) (here:Nat) cs ((ab P mv).take j))→PvI P c at_ mem spot here w₀ D R n cs e mv j [.obj 1 c.p,nv mem,.ref D,.ref R,nv spot,a,nv here,nv mv,e] w
inductive PzI(c:Plc)(mem:Nat)(w₀:W)(l:List Nat)(j:Nat):List V→W→Prop
 |mk (D R:Nat) (a b d e:V) (w:W):Bq w₀ w D R ((l.take j).map λo=>(o,((mem:Nat):Int),-1))→PzI c mem w₀ l j [.obj 1 c.p,nv mem,.ref D,.ref R,nv 0,a,b,d,e] w
inductive PxI(P:Pg)(c:Plc)(at_:List Int)(mem spot:Nat)(w₀ w₁:W)(D R:Nat)(cs:List Et)(o0:Nat)(x:Nat):List V→W→Prop
 |mk (a d e:V) (here:Int) (at2:List Int) (w:W):iQ w P c at2 ((ctL at_ P.lows.length).set o0 (cn at_ o0+1))→Fm c.M w₁ w→FlC P at_ mem at2→FlS P at_ mem cs o0 x here at2→At w D (.dict (cs.map kv))→PxI P c at_ mem spot w₀ w₁ D R cs o0 x [.obj 1 c.p,nv mem,.ref D,.ref R,nv spot,a,.int here,d,e] w
section
variable{P:Pg}{c:Plc}{at_:List Int}{mem spot here:Nat}{w₀ w₁ w:W}{D R:Nat}{cs:List Et}
theorem iQ.hereN{cs:List Int}{x:Int}(S:iQ w P c at_ cs){o:Nat}(h:cs[o]?=some x):jF w (.ref c.N) (nv o)=some (.int x):=fY S.counts (by rw[aK,h];rfl)
theorem iQ.hiI{cs:List Int}(S:iQ w P c at_ cs)(O:P.Ok){o:Nat}(h:o<P.lows.length):jF w (.ref c.H) (nv o)=some (.int (hi P o)):=fY S.highs (by
 unfold hi
 rw[aK,aL,aC (by rw[O.len];exact h)];rfl)
theorem iQ.loI{cs:List Int}(S:iQ w P c at_ cs){o:Nat}(h:o<P.lows.length):jF w (.ref c.L) (nv o)=some (.int (lo P o)):=fY S.lows (by
 unfold lo
 rw[aK,aL,aC h];rfl)
inductive Row(w:W)(P:Pg)(c:Plc)(k:Nat):Prop | mk (r:Nat):c.rs[k]?=some r→¬c.M r→At w r (.list ((ab P k).map nv))→Row w P c k
theorem iQ.rowI{cs:List Int}(S:iQ w P c at_ cs){k:Nat}(h:k<P.able.length):Row w P c k:=(S.row k h).elim λr z=>⟨r,z.1,z.2.1,z.2.2⟩
theorem iQ.rowV{cs:List Int}(S:iQ w P c at_ cs){k r:Nat}(h:c.rs[k]?=some r):jF w (.ref c.A) (nv k)=some (.ref r):=fY S.able (by rw[aK,h];rfl)
theorem aA8(I:PlI P at_ mem spot cs)(O:P.Ok):(cs.map kv).length<lim:=by rw[aA];exact aQ (I.le O) (cO O.small (by decide))
theorem XV{l:List Nat}(h:l.length<100):(l.map nv).length<lim:=by rw[aA];exact cO h (by decide)
theorem Jx{able:List (List Nat)}{ms:List Nat}{here:Int}{j mv:Nat}(h:ms[j]?=some mv):ring able (ms.take (j+1)) here cs=rT mv here (ring able (ms.take j) here cs) (able.getD mv []):=by
 unfold ring;rw[gS h,eO];rfl
theorem As{mv here:Int}{os:List Nat}{j o:Nat}(h:os[j]?=some o):rT mv here cs (os.take (j+1))=BO mv here (rT mv here cs (os.take j)) o:=by
 unfold rT;rw[gS h,eO];rfl
end
theorem nB{p:Prop}[Decidable p]{T F:Prop}(t:¬p→T)(f:p→F):Bool.rec (motive:=λξ=>Prop) F T (!decide p):=by
 by_cases h:p
 ·rw[decide_eq_true h];exact f h
 ·rw[decide_eq_false h];exact t h
section
variable{P:Pg}{c:Plc}{at_:List Int}{mem spot here:Nat}{w₀ w₁ w:W}{D R n:Nat}{cs:List Et}{l:List Nat}{j o mv:Nat}{lf:Int}{e:V}
theorem Qx(hl:l.Nodup)(hj:l[j]?=some o):o∉ks ((l.take j).map λo=>(o,((mem:Nat):Int),(-1:Int)))∧((l.take (j+1)).map λo=>(o,((mem:Nat):Int),(-1:Int)))=((l.take j).map λo=>(o,((mem:Nat):Int),(-1:Int)))++[(o,((mem:Nat):Int),(-1:Int))]:=by
 constructor
 ·rw[ks,cL]
  intro h
  obtain⟨a,ha,rfl⟩:=bL.mp h
  obtain⟨i,hi,hg⟩:=cQ ha
  rw[cS] at hi
  have h1:l[i]?=some a:=by rw[←hg,List.getElem_take,aC]
  have hi:=Nat.lt_min.mp hi
  exact bG hi.1 ((List.getElem?_inj hi.2 hl).mp (h1.trans hj.symm))
 ·rw[gS hj,aI];rfl
theorem PW(h:o∈ks cs):BO mv lf cs o=cs:=if_pos h
theorem PX(h:o∉ks cs):BO mv lf cs o=cs++[(o,(mv:Int),lf)]:=if_neg h
theorem Ir(h:(cs.map kv).length<lim):((ks cs).map nv).length<lim:=by rw[aA,aA] at *;exact h
structure Kb(P:Pg)(cs:List Et):Prop where
 nodup:(ks cs).Nodup
 lt:∀o∈ks cs,o<P.lows.length
theorem Kb.len(h:Kb P cs)(O:P.Ok):(cs.map kv).length<lim:=by
 have:=jH h.nodup h.lt
 rw[aA] at *
 exact aQ this (cO O.small (by decide))
theorem Kb.one(h:Kb P cs)(O:P.Ok){k:Nat}{x:Et}(ho:x.1∈ab P k)(hn:x.1∉ks cs):Kb P (cs++[x]):=by
 constructor
 ·simp only[ks,aI,aY,List.map_nil]
  exact dI.mpr ⟨h.nodup,by simp,λa ha b hb=>by rw[aG.mp hb];exact λq=>hn (q▸ha)⟩
 ·intro p hp
  simp only[ks,aI,aY,List.map_nil,bQ,aG] at hp
  exact hp.elim (λz=>h.lt p z) λz=>z▸tE O ho
theorem Kb.ring(h:Kb P cs)(O:P.Ok)(ms:List Nat)(here:Int):Kb P (ring P.able ms here cs):=zU (Q:=Kb P) ms h λcs mv o q ξ ho hn=>q.one O (x:=(o,_,_)) ho hn
theorem Kb.adds(h:Kb P cs)(O:P.Ok)(mv:Int)(lf:Int)(k i:Nat):Kb P (rT mv lf cs ((ab P k).take i)):=wY (Q:=Kb P) _ h λcs o q ho hn=>q.one O (x:=(o,_,_)) (dY ho) hn
theorem PlI.kb(I:PlI P at_ mem spot cs)(O:P.Ok):Kb P cs:=⟨I.nodup,λo h=>I.lt O h⟩
end
section
variable{G:List Int}{C:Cl}{w:W}{K:Kv}
theorem Qm(h1:CR C):yX (gR G C):=λP c at_ mem w K O S I hm k1 k2=>by
 have f0:Fm0 w ((w.add (.dict [])).add (.list [])):=(Fm.refl.add _).add _
 have S0:=S.keep f0
 have hnd:(ab P mem).Nodup:=by unfold ab;rw[aL,aC hm];exact O.nodup _ (List.getElem_mem hm)
 have hlt:(ab P mem).length≤P.lows.length:=jH hnd λo ho=>tE O ho
 have hsm:=O.small
 refine(S.rowI hm).casesOn λr e1 hr hrow=>⟨rfl,ok (fld S0.ns (by decide) rfl rfl) (ok (S0.rowV e1) (ok (fV (f0.at hrow)) ?_))⟩
 refine iD (Giv.cell (J:=Fm0 w) λw' f=>f.at hrow) (PzI c mem w (ab P mem)) (λξ ξ ξ h=>h.casesOn λξ ξ ξ ξ ξ ξ ξ b=>b.fm) (.mk _ _ _ _ _ _ _ ⟨f0,(At.new _ _).add _,At.new _ _,aO _,eQ _⟩)
  (λρ w' h=>h.casesOn λD R a b d e w2 q=>?_) (λj o hj ρ w' h R' hR=>h.casesOn λD R a b d e w2 q=>?_)
 ·rw[bM] at q
  refine tH λK1 hK1=>xJ (PwI P c at_ mem w) (λx=>P.lows.length-x.2) ?_ (_,0) (.mk _ _ _ _ _ _ _ q (PlI.zero O hm))
  rintro⟨cs,spot⟩ ρ w3 zz
  refine zz.casesOn λD R a b d e w3 q I1 R' hR=>?_
  have S3:=S.keep q.fm
  refine ok q.len (dB (λlt=>?_) λge=>hK1 _ _ _ (ok (xK q.r ?_) (k2 _ _ _ (q.fm.add _) q.fm.next (At.new _ _) (MO I1 O ?_))))
  ·have lt:spot<cs.length:=cH.mp lt
   have he:cs[spot]?=some cs[spot]:=aC lt
   generalize cs[spot]=en at he
   have lo_:en.1<P.lows.length:=I1.lt O (List.mem_map_of_mem (aF he))
   refine ok (q.item he) (ok (fld S3.ns (by decide) rfl rfl) (ok (S3.hereN (kF lo_)) (ok (fld S3.ns (by decide) rfl rfl) (ok (S3.hiI O lo_) (dB (λroom=>?_) λfull=>?_)))))
   ·have eN:((jF w3 (.ref c.N) (nv en.1)).bind kY)=some (cn at_ en.1):=by rw[S3.hereN (kF lo_)];rfl
    refine ok (fld S3.ns (by decide) rfl rfl) (ok eN (ok (jN S3.counts (by rw[aA,mL];exact lo_)) ?_))
    rw[show((ctL at_ P.lows.length).map V.int).set en.1 (.int (LM .Add (cn at_ en.1) 1))=((ctL at_ P.lows.length).set en.1 (cn at_ en.1+1)).map .int from eW.symm]
    have hmem:at_[mem]?=some (-1):=I.off mem (aO _) (by rw[I.len];exact hm)
    have qd:At (w3.set c.N (.list (((ctL at_ P.lows.length).set en.1 (cn at_ en.1+1)).map .int))) D (.dict (cs.map kv)):=q.d.set (q.d.dl S3.counts) _
    refine tH λK3 hK3=>xJ (PxI P c at_ mem (spot+1) w3 w3 D R cs en.1) id ?_ (spot+1) (.mk _ _ _ _ _ _ (S3.setN _) ((Fm.refl (M:=c.M)).set (.inl (.inr rfl)) _) FlC.refl (Rm he) qd)
    rintro x ρ w4 zz
    refine zz.casesOn λa d e here at2 w4 S4 f4 fc fs d4 R2 hR2=>?_
    cases x with
    |zero =>
     have hh:here=-1:=fs.1
     subst hh
     have e2:(ctL at_ P.lows.length).set en.1 (cn at_ en.1+1)=ctL at2 P.lows.length:=SM (λo ho=>by have:=fs.2.2 o;rw[show dl (en.1:Int) o=0 from if_neg (by lia)] at this;assumption) (by have:=fs.2.2 en.1;rw[show dl (en.1:Int) en.1=1 from if_pos rfl] at this;exact this)
     rw[e2] at S4
     exact hK3 _ _ _ (hK1 _ _ _ (k1 w4 at2 S4 (q.fm.up.trans f4) (Rp I hm fc fs room)))
    |succ i =>
     refine(Ro I1 I.len hmem fc fs).casesOn λe2 mv y he2 hh h2 hlt hy cc fs2=>?_
     obtain⟨o2,m2,l2⟩:=e2
     have h2:m2=(mv:Int):=h2
     subst h2
     subst hh
     refine ok (Ip d4 I1.nodup he2) (ok (fld S4.ns (by decide) rfl rfl) (ok (jN S4.at_ (by rw[aA];exact hlt)) ?_))
     rw[show(at2.map V.int).set mv (.int ((o2:Nat):Int))=(at2.set mv (o2:Nat)).map .int from eW.symm]
     exact hR2 y _ _ (.mk _ _ _ _ _ _ (S4.setT _) (f4.set (.inl (.inl rfl)) _) cc fs2 (d4.set (d4.dl S4.at_) _)) hy
   ·refine ok (gG S3.ns (by decide)) (h1 P c at_ _ en.1 _ _ S3 (by rw[I.len];exact O.few) λw4 n f4 hn q4=>ok (fV q4) ?_)
    have lr:R<w3.next:=q.r.lt
    have nR:n≠R:=cP (aM lr hn)
    have nD:D≠n:=bG (aM q.d.lt hn)
    refine iD (Giv.cell (J:=λw'=>At w' n (.list ((mAt at_ en.1).map nv))) λw' f=>f) (PuI P c at_ mem (spot+1) en.1 w D R n cs e) (λξ ξ ξ h=>h.casesOn λξ ξ ξ h ξ=>h) (.mk _ _ _ q4 (q.post f4))
     (λρ w' h=>h.casesOn λa d w5 ξ q5=>?_) λj mv hj ρ w' h R2 hR2=>h.casesOn λa d w5 hn5 q5=>?_
    ·rw[bM] at q5
     exact hR (_,spot+1) _ _ (.mk _ _ _ _ _ _ _ q5 (I1.step I.len he (fG.mp full))) (Nat.sub_succ_lt_self _ _ (aM lt (I1.le O)))
    ·have S5:=S.keep q5.fm
     have hmv:mv<P.able.length:=by rw[←I.len];exact(aB.mp (nE.mp (aF hj))).1
     refine(S.rowI hmv).casesOn λr e1 hr hrow=>ok (fld S5.ns (by decide) rfl rfl) (ok (S5.rowV e1) (ok (fV (q5.fm.at hrow)) ?_))
     refine iD (Giv.cell (J:=Fm0 w) λw' f=>f.at hrow) (PvI P c at_ mem (spot+1) en.1 w D R n (ring P.able ((mAt at_ en.1).take j) (en.1:Nat) cs) e mv) (λξ ξ ξ h=>h.casesOn λξ ξ ξ b=>b.fm) (.mk _ _ hn5 q5)
      (λρ w' h=>h.casesOn λa w6 hn6 q6=>?_) λi o hi ρ w' h R3 hR3=>h.casesOn λa w6 hn6 q6=>?_
     ·rw[bM] at q6
      exact hR2 _ _ (.mk _ _ _ hn6 (Jx hj▸q6))
     ·refine ok (q6.in o) (nB (λno=>?_) λyes=>hR3 _ _ (.mk _ _ hn6 ?_))
      ·have rm:((rT (mv:Nat) (en.1:Nat) (ring P.able ((mAt at_ en.1).take j) (en.1:Nat) cs) ((ab P mv).take i)).map kv).length<lim:=(((I1.kb O).ring O _ _).adds O _ _ _ _).len O
       refine ok (nP q6.d rm) (ok (fQ (q6.r1 _)) (ok (fQ (q6.r1 _)) (ok (gZ (q6.r1 _) (Ir rm)) (hR3 _ _ (.mk _ _ ?_ ?_)))))
       ·exact(hn6.set nD.symm _).set nR _
       ·rw[As hi,PX no];exact q6.add (e:=(o,((mv:Nat):Int),((en.1:Nat):Int))) no
      ·rw[As hi,PW yes];exact q6
  ·rw[aA];exact aQ (I1.le O) (cO O.small (by decide))
  ·have:¬((spot:Nat):Int)<(cs.length:Nat):=ge
   simp_all +arith
 ·obtain⟨n1,n2⟩:=Qx (mem:=mem) hnd hj
  have rl:(((ab P mem).take j).map λo=>(o,((mem:Nat):Int),(-1:Int))).length<60:=by rw[aA,cS];exact aQ (eI _ _) (aQ hlt hsm)
  refine ok (nP q.d (by rw[aA];exact cO rl (by decide))) (ok (fQ (q.r1 _)) (ok (fQ (q.r1 _)) (ok (gZ (q.r1 _) (by rw[aA,aA];exact cO rl (by decide))) (hR _ _ (.mk _ _ _ _ _ _ _ ?_)))))
  rw[n2];exact q.add (e:=(o,((mem:Nat):Int),(-1:Int))) n1
end
theorem neB{i j:Int}{T F:Prop}(t:i≠j→T)(f:i=j→F):Bool.rec (motive:=λξ=>Prop) F T (!PyData.eqv (.int i) (.int j)):=by
 rw[kT];exact nB t f
noncomputable def Vn:Fn:=⟨4,5,none,lR⟩
noncomputable def Vq:Fn:=⟨2,8,none,qR⟩
structure Mvd(P:Pg)(at_ at2:List Int)(op wn:Nat):Prop where
 len:at2.length=at_.length
 on:∀k:Nat,at2[k]?=at_[k]?∨∃o∈ab P k,at2[k]?=some (o:Int)
 cnt:∀o:Nat,cn at2 o+dl (op:Nat) o=cn at_ o+dl (wn:Nat) o
noncomputable def Hb(C:Cl):Prop:=∀P c at_ (cs:List Et) (i op wn D:Nat) w K,P.Ok→iQ w P c at_ (ctL at_ P.lows.length)→At w D (.dict (cs.map kv))→MvC P at_ wn cs→(∃e:Et,cs[i]?=some e∧e.1=op)→op≠wn→op<P.lows.length→wn<P.lows.length →
 (∀w' at2,iQ w' P c at2 (ctL at2 P.lows.length)→Fm c.M w w'→Mvd P at_ at2 op wn→K .none w')→C Vn [.obj 1 c.p,nv op,nv wn,.ref D] w K
inductive MwI(P:Pg)(c:Plc)(at_:List Int)(w₁:W)(D:Nat)(cs:List Et)(o0 wn:Nat)(cl:List Int)(x:Nat):List V→W→Prop
 |mk (a:V) (op:Nat) (at2:List Int) (w:W):iQ w P c at2 cl→Fm c.M w₁ w→MvS P at_ cs o0 x op at2→At w D (.dict (cs.map kv))→MwI P c at_ w₁ D cs o0 wn cl x [.obj 1 c.p,nv op,nv wn,.ref D,a] w
section
variable{G:List Int}{C:Cl}{w:W}{K:Kv}
theorem Ur:Hb (gR G C):=λP c at_ cs i op wn D w K O S d M he hne l1 l2 k=>by
 obtain⟨e,he,rfl⟩:=he
 have e1:((jF w (.ref c.N) (nv e.1)).bind kY)=some (cn at_ e.1):=by rw[S.hereN (kF l1)];rfl
 refine⟨rfl,ok (fld S.ns (by decide) rfl rfl) (ok e1 (ok (jN S.counts (by rw[aA,mL];exact l1)) ?_))⟩
 rw[show((ctL at_ P.lows.length).map V.int).set e.1 (.int (LM .Sub (cn at_ e.1) 1))=((ctL at_ P.lows.length).set e.1 (cn at_ e.1-1)).map .int from eW.symm]
 have S1:=S.setN ((ctL at_ P.lows.length).set e.1 (cn at_ e.1-1))
 have e2:((jF (w.set c.N (.list (((ctL at_ P.lows.length).set e.1 (cn at_ e.1-1)).map .int))) (.ref c.N) (nv wn)).bind kY)=some (cn at_ wn):=by rw[S1.hereN (by rw[cB hne];exact kF l2)];rfl
 refine ok (fld S1.ns (by decide) rfl rfl) (ok e2 (ok (jN S1.counts (by rw[aA,bR,mL];exact l2)) ?_))
 rw[show(((ctL at_ P.lows.length).set e.1 (cn at_ e.1-1)).map V.int).set wn (.int (LM .Add (cn at_ wn) 1))=(((ctL at_ P.lows.length).set e.1 (cn at_ e.1-1)).set wn (cn at_ wn+1)).map .int from eW.symm]
 have S2:=S1.setN (((ctL at_ P.lows.length).set e.1 (cn at_ e.1-1)).set wn (cn at_ wn+1))
 refine tH λK1 hK1=>xJ (MwI P c at_ w D cs e.1 wn (((ctL at_ P.lows.length).set e.1 (cn at_ e.1-1)).set wn (cn at_ wn+1))) id ?_ i (.mk _ _ _ _ S2 (((Fm.refl (M:=c.M)).set (.inl (.inr rfl)) _).set (.inl (.inr rfl)) _) (Id he) ((d.set (d.dl S.counts) _).set (d.dl S.counts) _))
 rintro x ρ w4 zz
 refine zz.casesOn λa op at2 w4 S4 f4 fs d4 R2 hR2=>?_
 refine neB (λq=>?_) λq=>?_
 ·refine(Ig M fs λz=>q (congrArg _ z)).casesOn λe2 mv y o2 he2 hh h2 h3 hlt hy fs2=>?_
  obtain⟨p2,m2,l2⟩:=e2
  have h2:m2=(mv:Int):=h2
  have h3:l2=(o2:Int):=h3
  subst h2
  subst h3
  subst hh
  refine ok (Ip d4 M.nodup he2) (ok (fld S4.ns (by decide) rfl rfl) (ok (jN S4.at_ (by rw[aA];exact hlt)) ?_))
  rw[show(at2.map V.int).set mv (.int ((o2:Nat):Int))=(at2.set mv (o2:Nat)).map .int from eW.symm]
  exact hR2 y _ _ (.mk _ _ _ _ (S4.setT _) (f4.set (.inl (.inl rfl)) _) fs2 (d4.set (d4.dl S4.at_) _)) hy
 ·obtain⟨_,hc⟩:=NK M fs (dS.mp q)
  obtain⟨_,_,_,_,_,hl,hon⟩:=fs
  have ec:((ctL at_ P.lows.length).set e.1 (cn at_ e.1-1)).set wn (cn at_ wn+1)=ctL at2 P.lows.length:=by
   apply eX
   intro o
   by_cases l:o<P.lows.length
   ·rw[kF l]
    have:=hc o
    by_cases q1:wn=o
    ·subst q1
     rw[cJ (by rw[bR,mL];exact l)]
     rw[show dl (wn:Int) wn=1 from if_pos rfl,show dl (e.1:Int) wn=0 from if_neg (by lia)] at this
     exact congrArg some (by exact id (Eq.symm this))
    ·rw[cB q1]
     rw[show dl (wn:Int) o=0 from if_neg (by lia)] at this
     by_cases q2:e.1=o
     ·subst q2
      rw[cJ (by rw[mL];exact l)]
      rw[show dl (e.1:Int) e.1=1 from if_pos rfl] at this
      exact congrArg some ((congrArg (· - 1) ((Int.add_zero _).symm.trans this.symm)).trans (Int.add_sub_cancel _ _))
     ·rw[cB q2,kF l]
      rw[show dl (e.1:Int) o=0 from if_neg (by lia)] at this
      exact congrArg some (by exact id (Eq.symm this))
   ·rw[bN (by rw[bR,bR,mL];simp_all +arith),bN (by rw[mL];simp_all +arith)]
  rw[ec] at S4
  exact hK1 _ _ _ (k w4 at2 S4 f4 ⟨hl,hon,hc⟩)
end
structure JZ(P:Pg)(at_:List Int)(wn:Nat)(R:List Nat):Prop where
 nodup:R.Nodup
 lt:∀o∈R,o<P.lows.length
 base:wn∈R
 low:∀o∈R,o≠wn→cn at_ o≤lo P o∧0<cn at_ o
 closed:∀o∈R,∀k,o∈ab P k→∃p∈R,at_[k]?=some (p:Int)
noncomputable def Do(C:Cl):Prop:=∀P c at_ (wn:Nat) w K,P.Ok→iQ w P c at_ (ctL at_ P.lows.length)→oH P at_ P.able.length→wn<P.lows.length→cn at_ wn<hi P wn →
 (∀w' at2 op,iQ w' P c at2 (ctL at2 P.lows.length)→Fm c.M w w'→oH P at2 P.able.length→Mvd P at_ at2 op wn→lo P op<cn at_ op→op≠wn→K .none w') →
 (∀w' n R,Fm0 w w'→w.next≤n→At w' n (.list (R.map nv))→JZ P at_ wn R→K (.ref n) w')→C Vq [.obj 1 c.p,nv wn] w K
section
variable{P:Pg}{c:Plc}{at_ at2:List Int}{wn spot op:Nat}{cs:List Et}
theorem aAn(I:oH P at_ P.able.length){k:Nat}(h:k<P.able.length):∃o∈ab P k,at_[k]?=some (o:Int):=I.on k h
theorem Ov{o k:Nat}(h:at_[k]?=some (o:Int)):0<cn at_ o:=Int.natCast_pos.mpr (List.count_pos_iff.mpr (aF h))
theorem FiI.lt(h:FiI P at_ wn spot cs)(I:oH P at_ P.able.length)(hw:wn<P.lows.length)(O:P.Ok){o:Nat}(q:o∈ks cs):o<P.lows.length:=by
 obtain⟨e,he,rfl⟩:=bL.mp q
 obtain⟨i,hi,hg⟩:=cQ he
 rcases h.ent i e (by rw[aC hi,hg]) with rfl | ⟨mv,j,f,h1,h2,_,_,_,h3,_⟩
 ·have:=h.head;rw[aC hi,hg] at this;rw[Option.some.inj this];exact hw
 ·obtain⟨o,ho,h4⟩:=I.on mv h2
  rw[h3] at h4
  have:e.1=o:=by have:=Option.some.inj h4;lia
  rw[this];exact tE O ho
theorem FiI.kb(h:FiI P at_ wn spot cs)(I:oH P at_ P.able.length)(hw:wn<P.lows.length)(O:P.Ok):Kb P cs:=⟨h.nodup,λo q=>h.lt I hw O q⟩
theorem MX(I:FiI P at_ wn spot cs)(J:oH P at_ P.able.length)(hw:wn<P.lows.length)(O:P.Ok)(h:cs.length≤spot):JZ P at_ wn (uH (ks cs)):=by
 have p:=tK (ks cs)
 have g:∀o∈ks cs,∃(i:Nat) (e:Et),e.1=o∧cs[i]?=some e:=λo ho=>by
  obtain⟨e,he,rfl⟩:=bL.mp ho
  obtain⟨i,hi,hg⟩:=cQ he
  exact⟨i,e,rfl,by rw[aC hi,hg]⟩
 refine⟨p.nodup_iff.mpr I.nodup,λo ho=>I.lt J hw O (p.mem_iff.mp ho),p.mem_iff.mpr (bL.mpr ⟨_,aF I.head,rfl⟩),λo ho hne=>?_,λo ho k hk=>?_⟩
 ·obtain⟨i,e,rfl,he⟩:=g o (p.mem_iff.mp ho)
  refine⟨I.low e (aF he) hne,?_⟩
  rcases I.ent i e he with rfl | ⟨mv,j,f,_,_,_,_,_,h3,_⟩
  ·rw[I.head] at he;exact absurd (by rw[←Option.some.inj he]) hne
  ·exact Ov h3
 ·obtain⟨i,e,rfl,he⟩:=g o (p.mem_iff.mp ho)
  obtain⟨q,h1,h2⟩:=I.closed i e (aM (aB.mp he).1 h) he k hk
  exact⟨q,p.mem_iff.mpr h1,h2⟩
theorem Mvd.ok(M:Mvd P at_ at2 op wn)(I:oH P at_ P.able.length)(h:cn at_ wn<hi P wn)(hne:op≠wn):oH P at2 P.able.length where
 len:=M.len.trans I.len
 on k hk:=by
  rcases M.on k with q | q
  ·rw[q];exact I.on k hk
  ·exact q
 off k hk hl:=by rw[M.len,I.len] at hl;exact False.elim (bG (aM hl hk) rfl)
 hi o ho:=by
  have h2:=M.cnt o
  have h1:=I.hi o ho
  by_cases q:wn=o
  ·subst q;rw[show dl (wn:Int) wn=1 from if_pos rfl,show dl (op:Int) wn=0 from if_neg (by lia)] at *;lia
  ·rw[show dl (wn:Int) o=0 from if_neg λz=>q (dS.mp z)] at h2
   exact Lr h2 (iteInduction (motive:=λx:Int=>0≤x) (λξ=>by decide) λξ=>by decide) ((Int.add_zero _).symm▸h1)
end
inductive FwI(P:Pg)(c:Plc)(at_:List Int)(wn:Nat)(w₀:W)(x:List Et×Nat):List V→W→Prop
 |mk (D R:Nat) (a b d:V) (w:W):Bq w₀ w D R x.1→FiI P at_ wn x.2 x.1→FwI P c at_ wn w₀ x [.obj 1 c.p,nv wn,.ref D,.ref R,nv x.2,a,b,d]
 w
inductive FxI(P:Pg)(c:Plc)(at_:List Int)(wn spot:Nat)(w₀:W)(D R:Nat)(e:Et)(j:Nat):List V→W→Prop
 |mk (cs:List Et) (b d:V) (w:W):Bq w₀ w D R cs→FiI P at_ wn spot cs→cs[spot]?=some e→(∀k,k<j→e.1∈ab P k→∃o∈ks cs,at_[k]?=some (o:Int))→FxI P c at_ wn spot w₀ D R e j [.obj 1 c.p,nv wn,.ref D,.ref R,nv (spot+1),nv e.1,b,d] w
section
variable{P:Pg}{c:Plc}{at_ at2:List Int}{wn spot op:Nat}{cs:List Et}
theorem FiI.next(I:FiI P at_ wn spot cs)(hl:at_.length=P.able.length){e:Et}(he:cs[spot]?=some e)(h:∀k,k<P.able.length→e.1∈ab P k→∃o∈ks cs,at_[k]?=some (o:Int)):FiI P at_ wn (spot+1) cs:=
 ⟨I.nodup,I.head,I.ent,I.low,λi x hi hx k hk=>by
  rcases bO.mp hi with hi | rfl
  ·exact I.closed i x hi hx k hk
  ·rw[he] at hx
   obtain rfl:=Option.some.inj hx
   refine h k (Nat.lt_of_not_le λz=>?_) hk
   unfold ab at hk
   rw[aL,bN z] at hk;cases hk⟩
end
section
variable{G:List Int}{C:Cl}{w:W}{K:Kv}
theorem Uv(h1:Hb C):Do (gR G C):=λP c at_ wn w K O S I hw hr k1 k2=>by
 refine⟨rfl,tH λK1 hK1=>xJ (FwI P c at_ wn w) (λx=>P.lows.length-x.2) ?_ ([(wn,-1,-1)],0) (.mk _ _ _ _ _ _ ⟨(Fm.refl.add _).add _,(At.new _ _).add _,At.new _ _,aO _,eQ _⟩ FiI.zero)⟩
 rintro⟨cs,spot⟩ ρ w3 zz
 refine zz.casesOn λD R a b d w3 q I1 R' hR=>?_
 have S3:=S.keep q.fm
 have cl:cs.length≤P.lows.length:=by have:=jH I1.nodup λo h=>I1.lt I hw O h;rwa [aA] at this
 have hsm:=O.small
 refine ok q.len (dB (λlt=>?_) λge=>hK1 _ _ _ (ok (xK q.r ?_) (k2 _ _ _ (q.fm.add _) q.fm.next (At.new _ _) (MX I1 I hw O ?_))))
 ·have lt:spot<cs.length:=cH.mp lt
  have he:cs[spot]?=some cs[spot]:=aC lt
  generalize cs[spot]=en at he
  have el:((at_.map V.int).length:Nat)=P.able.length:=(aA ..).trans I.len
  refine ok (q.item he) (ok (fld S3.ns (by decide) rfl rfl) (ok (gJ S3.at_) (bT (by rw[el];exact lY (by have:=O.few;lia)) ?_)))
  refine Rk λK2 hK2=>nZ (show Giv (λξ=>True) (lP 0 (at_.map V.int).length) _ by rw[el];exact Giv.nat _ _) (FxI P c at_ wn spot w D R en) (λξ ξ ξ ξ=>trivial) (.mk _ _ _ _ q I1 he λk h=>absurd h (cU _))
   (λρ w' h=>h.casesOn λcs2 b d w4 q4 I4 he4 hk=>?_) λj mv hj ρ w' h R2 hR2=>h.casesOn λcs2 b d w4 q4 I4 he4 hk=>?_
  ·rw[aP] at hk
   have cl4:cs2.length≤P.lows.length:=by have:=jH I4.nodup λo h=>I4.lt I hw O h;rwa [aA] at this
   exact hK2 _ _ _ (hR (cs2,spot+1) _ _ (.mk _ _ _ _ _ _ q4 (I4.next I.len he4 hk)) (Nat.sub_lt_sub_left (aM (aB.mp he4).1 cl4) (cV _)))
  ·obtain⟨jl,rfl⟩:j<P.able.length∧mv=j:=by
    have:=(aB.mp hj).1
    rw[aP] at this
    rw[cI this] at hj
    exact⟨this,(Option.some.inj hj).symm⟩
   have S4:=S.keep q4.fm
   obtain⟨o,ho,ha⟩:=I.on mv jl
   have ea:(at_.map V.int)[mv]?=some (nv o):=by rw[aK,ha];rfl
   refine ok (fld S4.ns (by decide) rfl rfl) (ok (fY S4.at_ ea) ((S.rowI jl).casesOn λr e1 hr9 hrow=>ok (fld S4.ns (by decide) rfl rfl) (ok (S4.rowV e1) (ok (DO (q4.fm.at hrow)) (dB (λyes=>ok (q4.in o) (nB (λno=>?_) λold=>?_)) λnot=>?_)))))
   ·have rm:=(I4.kb I hw O).len O
    have q5:=q4.add (e:=(o,((mv:Nat):Int),((en.1:Nat):Int))) no
    have S5:=S.keep q5.fm
    have lo_:o<P.lows.length:=tE O ho
    refine ok (nP q4.d rm) (ok (fQ (q4.r1 _)) (ok (fQ (q4.r1 _)) (ok (gZ (q4.r1 _) (Ir rm)) (ok (fld S5.ns (by decide) rfl rfl) (ok (S5.hereN (kF lo_)) (ok (fld S5.ns (by decide) rfl rfl) (ok (S5.loI lo_) (dB (λgt=>?_) λle=>?_))))))))
    ·obtain⟨a1,a2,up⟩:=I4.pre I.len he4 ha yes no
     have hne:o≠wn:=λz=>no (z▸bL.mpr ⟨_,aF I4.head,rfl⟩)
     exact ok (gG S5.ns (by decide)) (h1 P c at_ _ cs2.length o wn D _ _ O S5 q5.d ⟨I.len,a1,up _ _ I4.head,a2⟩ ⟨(o,((mv:Nat):Int),((en.1:Nat):Int)),by rw[bP (aO _),eM];rfl,rfl⟩ hne lo_ hw λw6 at2 S6 f6 M=>hK2 _ _ _ (hK1 _ _ _ (k1 w6 at2 o S6 (q5.fm.up.trans f6) (M.ok I hr hne) M gt hne)))
    ·have I5:=I4.add I.len he4 ha yes no (fG.mp le)
     refine hR2 _ _ (.mk _ _ _ _ q5 I5 (by rw[aJ (aB.mp he4).1];exact he4) λk hk2 hk3=>?_)
     rcases bO.mp hk2 with hk2 | rfl
     ·obtain⟨o2,h2,h3⟩:=hk k hk2 hk3
      exact⟨o2,by simp only[ks,aI,bQ];exact .inl h2,h3⟩
     ·exact⟨o,by simp[ks],ha⟩
   ·refine hR2 _ _ (.mk _ _ _ _ q4 I4 he4 λk hk2 hk3=>?_)
    rcases bO.mp hk2 with hk2 | rfl
    ·exact hk k hk2 hk3
    ·exact⟨o,old,ha⟩
   ·refine hR2 _ _ (.mk _ _ _ _ q4 I4 he4 λk hk2 hk3=>?_)
    rcases bO.mp hk2 with hk2 | rfl
    ·exact hk k hk2 hk3
    ·exact absurd hk3 not
 ·rw[aA];exact aQ cl (cO hsm (by decide))
 ·have:¬((spot:Nat):Int)<(cs.length:Nat):=ge
  simp_all +arith
end
theorem aAo{s b:SS}{ρ:List V}{w:W}{K:List V→Out→W→Prop}(Q:List V→W→Prop)(first:∀K2:List V→Out→W→Prop,(∀ρ w,Q ρ w→K2 ρ .go w)→s ρ w K2)(main:∀ρ w,Q ρ w→b ρ w K):Dc s b ρ w K:=first _ main
noncomputable def oN(r:List Nat)(o:Nat):List Nat:=if o∈r then r else r++[o]
structure Rch(P:Pg)(at_:List Int)(op:Nat)(F:List Nat)(room:Bool):Prop where
 nodup:F.Nodup
 lt:∀o∈F,o<P.lows.length
 base:op∈F
 closed:∀o∈F,∀k,at_[k]?=some (o:Int)→∀p∈ab P k,p∈F
 late:room=true→∀o,o<P.lows.length→lo P o<cn at_ o→o∈F
 yes:room=true→∃o∈F,cn at_ o<hi P o
 no:room=false→∀o∈F,hi P o≤cn at_ o
 least:∀T:Nat→Prop,T op→(∀o,T o→∀k,at_[k]?=some (o:Int)→∀p∈ab P k,T p)→((∃o,o<P.lows.length∧T o∧cn at_ o<hi P o)→∀o,o<P.lows.length→lo P o<cn at_ o→T o)→∀o∈F,T o
structure RcI(P:Pg)(at_:List Int)(op spot:Nat)(r:List Nat)(room:Bool):Prop where
 nodup:r.Nodup
 lt:∀o∈r,o<P.lows.length
 base:op∈r
 closed:∀(i o:Nat),i<spot→r[i]?=some o→∀k,at_[k]?=some (o:Int)→∀p∈ab P k,p∈r
 late:room=true→∀o,o<P.lows.length→lo P o<cn at_ o→o∈r
 yes:room=true→∃o∈r,cn at_ o<hi P o
 no:room=false→∀(i o:Nat),i<spot→r[i]?=some o→hi P o≤cn at_ o
 least:∀T:Nat→Prop,T op→(∀o,T o→∀k,at_[k]?=some (o:Int)→∀p∈ab P k,T p)→((∃o,o<P.lows.length∧T o∧cn at_ o<hi P o)→∀o,o<P.lows.length→lo P o<cn at_ o→T o)→∀o∈r,T o
noncomputable def sY(P:Pg)(at_:List Int):List Nat:=(aX P.lows.length).filter λo=>decide (lo P o<cn at_ o)
theorem pH{P:Pg}{at_:List Int}{o:Nat}:o∈sY P at_↔o<P.lows.length∧lo P o<cn at_ o:=by
 unfold sY;rw[bX,cK,decide_eq_true_iff]
section
variable{P:Pg}{at_:List Int}{op spot:Nat}{r fr:List Nat}{room:Bool}
theorem Ar{Q:List Nat→Prop}:∀(fr:List Nat) {r:List Nat},Q r→(∀r o,Q r→o∈fr→o∉r→Q (r++[o]))→Q (fr.foldl oN r)
 |[],_,h,_=>h
 |o::fr,r,h,s=>Ar fr (r:=oN r o) (by unfold oN;by_cases q:o∈r;{rw[if_pos q];exact h};{rw[if_neg q];exact s r o h aZ q}) λr o h m=>s r o h (bA _ m)
theorem oE:∀(fr:List Nat) {r:List Nat} {a:Nat},a∈r→a∈fr.foldl oN r
 |[],_,_,h=>h
 |o::fr,r,a,h=>oE fr (r:=oN r o) (by unfold oN;by_cases q:o∈r;{rw[if_pos q];exact h};{rw[if_neg q];exact cG _ h})
theorem Aq:∀(fr:List Nat) {r:List Nat} {a:Nat},a∈fr→a∈fr.foldl oN r
 |[],_,_,h=>nomatch h
 |o::fr,r,a,h=>by
  rcases bJ.mp h with rfl | h
  ·exact oE fr (r:=oN r a) (by unfold oN;by_cases q:a∈r;{rw[if_pos q];exact q};{rw[if_neg q];simp})
  ·exact Aq fr h
theorem RcI.zero(h:op<P.lows.length):RcI P at_ op 0 [op] false where
 nodup:=by simp
 lt o ho:=by rw[aG.mp ho];exact h
 base:=by simp
 closed _ _ h:=absurd h (cU _)
 late h:=nomatch h
 yes h:=nomatch h
 no _ _ _ h:=absurd h (cU _)
 least T h _ _ o ho:=by rw[aG.mp ho];exact h
structure Frs(P:Pg)(at_:List Int)(here:Nat)(room rm2:Bool)(fr:List Nat):Prop where
 le:room=true→rm2=true
 sub:∀o∈fr,(o∈sY P at_∧room=false∧cn at_ here<hi P here)∨∃k,at_[k]?=some (here:Int)∧o∈ab P k
 all:∀k,at_[k]?=some (here:Int)→∀o∈ab P k,o∈fr
 new:room=false→rm2=true→cn at_ here<hi P here∧∀o∈sY P at_,o∈fr
 no:rm2=false→hi P here≤cn at_ here
theorem RcI.step(I:RcI P at_ op spot r room)(O:P.Ok){here:Nat}{rm2:Bool}(hh:r[spot]?=some here)(F:Frs P at_ here room rm2 fr):RcI P at_ op (spot+1) (fr.foldl oN r) rm2∧spot<(fr.foldl oN r).length:=by
 have hm:=aF hh
 have hs:=(aB.mp hh).1
 have key:=Ar (Q:=λq=>q.Nodup∧(∀o∈q,o<P.lows.length)∧(∀(i o:Nat),r[i]?=some o→q[i]?=some o)∧(∀T:Nat→Prop,T op→(∀o,T o→∀k,at_[k]?=some (o:Int)→∀p∈ab P k,T p)→((∃o,o<P.lows.length∧T o∧cn at_ o<hi P o)→∀o,o<P.lows.length→lo P o<cn at_ o→T o)→∀o∈q,T o)) fr ⟨I.nodup,I.lt,λξ ξ h=>h,I.least⟩ λq o ⟨h1,h2,h3,h4⟩ ho hn=>by
  refine⟨dI.mpr ⟨h1,by simp,λa ha b hb=>by rw[aG.mp hb];exact λz=>hn (z▸ha)⟩,λp hp=>?_,λi p hp=>?_,λT t1 t2 t3 p hp=>?_⟩
  ·rcases bQ.mp hp with hp | hp
   ·exact h2 p hp
   ·rw[aG.mp hp]
    exact(F.sub o ho).elim (λz=>(pH.mp z.1).1) λz=>z.elim λk z=>tE O z.2
  ·have:=h3 i p hp
   rw[aJ (aB.mp this).1];exact this
  ·rcases bQ.mp hp with hp | hp
   ·exact h4 T t1 t2 t3 p hp
   ·rw[aG.mp hp]
    have hT:=I.least T t1 t2 t3 here hm
    exact(F.sub o ho).elim (λz=>t3 ⟨here,I.lt _ hm,hT,z.2.2⟩ o (pH.mp z.1).1 (pH.mp z.1).2) λz=>z.elim λk z=>t2 here hT k z.1 o z.2
 obtain⟨k1,k2,k3,k4⟩:=key
 have back:∀(i o:Nat),i<r.length→(fr.foldl oN r)[i]?=some o→r[i]?=some o:=λi o hi ho=>by
  have:=k3 i r[i] (aC hi)
  rw[ho] at this;rw[aC hi,Option.some.inj this]
 refine⟨⟨k1,k2,oE fr I.base,λi o hi ho k hk p hp=>?_,λh o h1 h2=>?_,λh=>?_,λh i o hi ho=>?_,k4⟩,(aB.mp (k3 _ _ hh)).1⟩
 ·have ho:=back i o (by lia) ho
  rcases bO.mp hi with hi | rfl
  ·exact oE fr (I.closed i o hi ho k hk p hp)
  ·rw[hh] at ho;cases ho
   exact Aq fr (F.all k hk p hp)
 ·cases q:room with
  |true=>exact oE fr (I.late q o h1 h2)
  |false=>exact Aq fr ((F.new q h).2 o (pH.mpr ⟨h1,h2⟩))
 ·cases q:room with
  |true=>exact(I.yes q).elim λo z=>⟨o,oE fr z.1,z.2⟩
  |false=>exact⟨here,oE fr hm,(F.new q h).1⟩
 ·have ho:=back i o (by lia) ho
  rcases bO.mp hi with hi | rfl
  ·cases q:room with
   |true=>rw[F.le q] at h;cases h
   |false=>exact I.no q i o hi ho
  ·rw[hh] at ho;cases ho
   exact F.no h
theorem Ug(I:RcI P at_ op spot r room)(h:r.length≤spot):Rch P at_ op (uH r) room:=by
 have p:=tK r
 have g:∀o∈uH r,∃i:Nat,i<spot∧r[i]?=some o:=λo ho=>by
  obtain⟨i,hi,hg⟩:=cQ (p.mem_iff.mp ho)
  exact⟨i,aM hi h,by rw[aC hi,hg]⟩
 exact⟨p.nodup_iff.mpr I.nodup,λo ho=>I.lt o (p.mem_iff.mp ho),p.mem_iff.mpr I.base,λo ho k hk q hq=>(g o ho).elim λi z=>p.mem_iff.mpr (I.closed i o z.1 z.2 k hk q hq),λh o h1 h2=>p.mem_iff.mpr (I.late h o h1 h2),
  λh=>(I.yes h).elim λo z=>⟨o,p.mem_iff.mpr z.1,z.2⟩,λh o ho=>(g o ho).elim λi z=>I.no h i o z.1 z.2,λT t1 t2 t3 o ho=>I.least T t1 t2 t3 o (p.mem_iff.mp ho)⟩
end
noncomputable def kr(o:Nat):Int×V:=((o:Nat),.bool true)
structure Br(w₀ w:W)(D R:Nat)(r:List Nat):Prop where
 fm:Fm0 w₀ w
 d:At w D (.dict (r.map kr))
 r:At w R (.list (r.map nv))
 ld:w₀.next≤D
 lr:w₀.next≤R
section
variable{w₀ w w':W}{D R n:Nat}{r:List Nat}{P:Pg}{at_:List Int}{ds es:List V}
theorem Br.post(b:Br w₀ w D R r)(f:Fm0 w w'):Br w₀ w' D R r:=⟨b.fm.trans f,f.at b.d,f.at b.r,b.ld,b.lr⟩
theorem DG:(r.map kr).map (·.1)=r.map λo:Nat=>(o:Int):=by rw[cL];rfl
theorem Br.in(b:Br w₀ w D R r)(o:Nat):jK .NotIn w (nv o) (.ref D)=some (!decide (o∈r)):=by
 rw[AA b.d,DG];exact congrArg (λb=>some (!b)) (decide_eq_decide.mpr pI)
theorem Br.r1(b:Br w₀ w D R r)(d:hW):At (w.set D d) R (.list (r.map nv)):=b.r.set (b.d.dl b.r).symm _
theorem Br.add(b:Br w₀ w D R r){o:Nat}(h:o∉r):Br w₀ ((w.set D (.dict (mO (o:Int) (.bool true) (r.map kr)))).set R (.list (r.map nv++[nv o]))) D R (r++[o]):=
 ⟨(b.fm.set (.inr b.ld) _).set (.inr b.lr) _,(show mO (o:Int) (.bool true) (r.map kr)=(r++[o]).map kr by rw[zW (by rw[DG];exact λq=>h (pI.mp q)),aI];rfl)▸(b.d.put _).set (b.d.dl b.r) _,((b.r1 _).put _).cast (by rw[aI];rfl),b.ld,b.lr⟩
theorem Br.item(b:Br w₀ w D R r){i o:Nat}(h:r[i]?=some o):jF w (.ref R) (nv i)=some (nv o):=fY b.r (by rw[aK,h];rfl)
theorem Br.len(b:Br w₀ w D R r):wT 0 [.ref R] w=some (nv r.length,w):=by rw[gJ b.r,aA]
theorem EL(h:At w n (.dict (r.map kr)))(q:r.length<64):wT 5 [.ref n] w=some (.ref w.next,w.add (.list ((uH r).map nv))):=by
 show((w.get n).bind _)=_
 rw[h.get]
 show(if(r.map kr).length<64 then some (V.ref w.next,w.add (.list ((qM ((r.map kr).map (·.1))).map .int))) else none)=_
 rw[if_pos (by rw[aA];exact q),DG,Bc]
theorem vG{v:V}(h:iS w v=some es)(hl:(ds++es).length≤lim):Ge n 1 ds [v] w=some (.none,w.set n (.list (ds++es))):=by
 show((iS w v).bind λes=>if[v].length=1∧(ds++es).length≤lim then some (V.none,w.set n (.list (ds++es))) else none)=_
 rw[h];exact if_pos ⟨rfl,hl⟩
theorem pV{α β:Type}{l:List α}{f:α→List β}{j:Nat}{x:α}(h:l[j]?=some x):(l.take (j+1)).flatMap f=(l.take j).flatMap f++f x:=by rw[gS h,List.flatMap_append];simp
theorem rK{α β:Type}{f:α→List β}{b:Nat}:∀(l:List α),(∀x∈l,(f x).length≤b)→(l.flatMap f).length≤b*l.length
 |[],_=>aO _
 |x::l,h=>by
  rw[List.flatMap_cons,aD,cT,Nat.mul_succ,Nat.add_comm]
  exact dH (rK l λy hy=>h y (bA _ hy)) (h x aZ)
theorem Vz(O:P.Ok)(k:Nat):(ab P k).length≤60:=by
 unfold ab
 rw[aL]
 cases q:P.able[k]? with
 |none=>exact cX _
 |some l=>exact aE (jH (O.nodup l (aF q)) (O.lt l (aF q))) (bW O.small)
theorem Ik(o:Nat):(mAt at_ o).length≤at_.length:=by
 unfold mAt
 have:=bZ (λk=>decide (at_[k]?=some (o:Int))) (aX at_.length)
 rwa [aP] at this
theorem Kt(O:P.Ok)(hl:at_.length=P.able.length)(o j:Nat):(((mAt at_ o).take j).flatMap (ab P)).length≤6000:=by
 have:=rK (b:=60) (f:=ab P) ((mAt at_ o).take j) λx ξ=>Vz O x
 rw[cS] at this
 exact aE this (dJ 60 (aE (eI _ _) (aE (Ik o) (hl▸bW O.few))))
end
structure Fr0(P:Pg)(at_:List Int)(here:Nat)(room rm2:Bool)(fr:List Nat):Prop where
 le:room=true→rm2=true
 sub:∀o∈fr,o∈sY P at_∧room=false∧cn at_ here<hi P here
 new:room=false→rm2=true→cn at_ here<hi P here∧∀o∈sY P at_,o∈fr
 no:rm2=false→hi P here≤cn at_ here
 len:fr.length≤60
theorem Fr0.all{P:Pg}{at_:List Int}{here:Nat}{room rm2:Bool}{fr:List Nat}(F:Fr0 P at_ here room rm2 fr):Frs P at_ here room rm2 (fr++(mAt at_ here).flatMap (ab P)) where
 le:=F.le
 sub o ho:=(bQ.mp ho).elim (λh=>.inl (F.sub o h)) λh=>.inr ((dZ.mp h).elim λk z=>⟨k,nE.mp z.1,z.2⟩)
 all k hk o ho:=dW _ (dZ.mpr ⟨k,nE.mpr hk,ho⟩)
 new a b:=⟨(F.new a b).1,λo ho=>cG _ ((F.new a b).2 o ho)⟩
 no:=F.no
noncomputable def Kz:Fn:=⟨2,10,none,kX⟩
noncomputable def xB(C:Cl):Prop:=∀P c at_ (op:Nat) w K,P.Ok→iQ w P c at_ (ctL at_ P.lows.length)→at_.length=P.able.length→op<P.lows.length →
 (∀w' n F room,Fm0 w w'→w.next≤n→At w' n (.list (F.map nv))→Rch P at_ op F room→K (.tup [.ref n,.bool room]) w')→C Kz [.obj 1 c.p,nv op] w K
inductive RwI(P:Pg)(c:Plc)(at_:List Int)(op:Nat)(w₀:W)(x:List Nat×Nat×Bool):List V→W→Prop
 |mk (D R:Nat) (a b d e:V) (w:W):Br w₀ w D R x.1→RcI P at_ op x.2.1 x.1 x.2.2→RwI P c at_ op w₀ x [.obj 1 c.p,nv op,.ref D,.ref R,nv x.2.1,.bool x.2.2,a,b,d,e] w
inductive RqI(P:Pg)(c:Plc)(at_:List Int)(op spot:Nat)(w₁:W)(D R n here:Nat)(room:Bool):List V→W→Prop
 |mk (rm2:Bool) (fr:List Nat) (d e:V) (w:W):Fm0 w₁ w→At w n (.list (fr.map nv))→Fr0 P at_ here room rm2 fr→RqI P c at_ op spot w₁ D R n here room [.obj 1 c.p,nv op,.ref D,.ref R,nv spot,.bool rm2,nv here,.ref n,d,e] w
inductive RmI(P:Pg)(c:Plc)(at_:List Int)(op spot:Nat)(w₁:W)(D R n here m:Nat)(rm2:Bool)(fr:List Nat)(j:Nat):List V→W→Prop
 |mk (d e:V) (w:W):Fm0 w₁ w→At w n (.list ((fr++((mAt at_ here).take j).flatMap (ab P)).map nv))→At w m (.list ((mAt at_ here).map nv))→RmI P c at_ op spot w₁ D R n here m rm2 fr j [.obj 1 c.p,nv op,.ref D,.ref R,nv spot,.bool rm2,nv here,.ref n,d,e] w
inductive RfI(P:Pg)(c:Plc)(op spot:Nat)(w₀:W)(D R n here:Nat)(rm2:Bool)(fr r:List Nat)(j:Nat):List V→W→Prop
 |mk (d e:V) (w:W):Br w₀ w D R ((fr.take j).foldl oN r)→At w n (.list (fr.map nv))→RfI P c op spot w₀ D R n here rm2 fr r j [.obj 1 c.p,nv op,.ref D,.ref R,nv spot,.bool rm2,nv here,.ref n,d,e] w
noncomputable def iU:Nat→Bk→Bk:=Nat.rec (λb=>b) λξ R b=>Bk.casesOn (motive_2:=λξ=>Bk) b .nil λξ b=>R b
noncomputable def gH(n:Nat)(b:Bk):St:=Bk.casesOn (motive_2:=λξ=>St) (iU n b) .retn λs ξ=>s
noncomputable def qW(s:St):Bk:=St.casesOn (motive_1:=λξ=>Bk) s (λξ=>.nil) (λξ=>.nil) .nil (λξ ξ=>.nil) (λξ ξ ξ ξ=>.nil) (λξ a ξ=>a) (λξ b=>b) λξ ξ b=>b
noncomputable abbrev GoS(s:SS)(ρ:List V)(w:W)(Q:List V→W→Prop):Prop:=∀K2:List V→Out→W→Prop,(∀ρ w,Q ρ w→K2 ρ .go w)→s ρ w K2
theorem gP{G:List Int}{C:Cl}{w:W}{ir:Bk}{n:Nat}{ρ:List V}{K:List V→Out→W→Prop}{Q:List V→W→Prop}(e:iU n ir=.cons (gH n ir) (iU (n+1) ir))(h:GoS (stW G C (gH n ir)) ρ w Q)(k:∀ρ w,Q ρ w→bkW G C (iU (n+1) ir) ρ w K):bkW G C (iU n ir) ρ w K:=by
 rw[e];exact h _ k
noncomputable def Cu:Bk:=qW (gH 1 kX)
section
variable{G:List Int}{C:Cl}{w w₁:W}{P:Pg}{c:Plc}{at_:List Int}{op spot here D R n m:Nat}{room rm2:Bool}{fr r:List Nat}
theorem LU{rm2:Bool}(I:RcI P at_ op spot r room)(O:P.Ok){here:Nat}(hh:r[spot]?=some here)(F:Frs P at_ here room rm2 fr)(j:Nat):((fr.take j).foldl oN r).length≤P.lows.length:=by
 have:=Ar (Q:=λq=>q.Nodup∧∀o∈q,o<P.lows.length) (fr.take j) ⟨I.nodup,I.lt⟩ λq o ⟨h1,h2⟩ ho hn=>⟨dI.mpr ⟨h1,by simp,λa ha b hb=>by rw[aG.mp hb];exact λz=>hn (z▸ha)⟩,λp hp=>by
  rcases bQ.mp hp with hp | hp
  ·exact h2 p hp
  ·rw[aG.mp hp]
   exact(F.sub o (dY ho)).elim (λz=>(pH.mp z.1).1) λz=>z.elim λk z=>tE O z.2⟩
 exact jH this.1 this.2
theorem XY(f1:Fm0 w₁ w)(hw:w₁.next≤n)(O:P.Ok)(S:iQ w P c at_ (ctL at_ P.lows.length))(hm:here<P.lows.length)(hn:At w n (.list []))(d e:V):GoS (stW G C (gH 1 Cu)) [.obj 1 c.p,nv op,.ref D,.ref R,nv spot,.bool room,nv here,.ref n,d,e] w (RqI P c at_ op spot w₁ D R n here room):=λK2 k=>by
 cases room with
 |true=>exact k _ _ (.mk true [] d e w f1 hn ⟨λξ=>rfl,λo h=>(nomatch h),λh=>(nomatch h),λh=>(nomatch h),cX _⟩)
 |false =>
  refine ok (fld S.ns (by decide) rfl rfl) (ok (S.hereN (kF hm)) (ok (fld S.ns (by decide) rfl rfl) (ok (S.hiI O hm) (dB (λlt=>?_) λge=>k _ _ (.mk false [] d e w f1 hn ⟨λh=>h,λo h=>(nomatch h),λξ h=>(nomatch h),λξ=>fG.mp ge,cX _⟩)))))
  have el:((P.lows.map V.int).length:Nat)=P.lows.length:=aA ..
  have hsm:=O.small
  refine ok (fQ hn) (ok (fld S.ns (by decide) rfl rfl) (ok (gJ S.lows) (bT (by rw[el];exact lY (by lia)) ?_)))
  refine gM (aX P.lows.length) nv (show Giv _ (lP 0 (P.lows.map V.int).length) _ by rw[el];exact Giv.nat _ _) (λo=>decide (lo P o<cn at_ o)) nv (λi=>[nv i]) (λξ ξ=>rfl) (by rw[aP];have:lim=100000:=rfl;show 0+P.lows.length≤lim;lia) (λi hi w' h T F t f=>?_) λw' h=>?_
  ·have hi:=cK.mp hi
   have S':=S.keep h
   exact ok (fld S'.ns (by decide) rfl rfl) (ok (S'.hereN (kF hi)) (ok (fld S'.ns (by decide) rfl rfl) (ok (S'.loI hi) (dB (λq=>t _ .refl (decide_eq_true q)) λq=>f _ .refl (decide_eq_false q)))))
  ·have c2:=(h.add (.list ((sY P at_).map nv))).at hn
   have ll:(sY P at_).length≤P.lows.length:=by
    have:=bZ (λo=>decide (lo P o<cn at_ o)) (aX P.lows.length)
    rwa [aP] at this
   refine ok (fQ c2) (ok (vG (fQ (At.new _ _)) (by show(List.map nv (sY P at_)).length≤lim;rw[aA];exact aE ll (aE (bW hsm) (by decide)))) (k _ _ (.mk true (sY P at_) d e _ ?_ (c2.put _) ⟨λξ=>rfl,λo ho=>⟨ho,rfl,lt⟩,λξ ξ=>⟨lt,λo ho=>ho⟩,λh=>(nomatch h),by exact aE ll (bW hsm)⟩)))
   exact((f1.trans h).add _).set (.inr hw) _
theorem XX(h1:CR C)(O:P.Ok)(S:iQ w₁ P c at_ (ctL at_ P.lows.length))(hl:at_.length=P.able.length)(hf:fr.length≤60)(hn:At w n (.list (fr.map nv)))(hw:w₁.next≤n)(f:Fm0 w₁ w)(d e:V):GoS (stW G C (gH 2 Cu)) [.obj 1 c.p,nv op,.ref D,.ref R,nv spot,.bool rm2,nv here,.ref n,d,e] w
  (λρ w'=>∃d e,ρ=[.obj 1 c.p,nv op,.ref D,.ref R,nv spot,.bool rm2,nv here,.ref n,d,e]∧Fm0 w₁ w'∧At w' n (.list ((fr++(mAt at_ here).flatMap (ab P)).map nv))):=λK2 k=>by
 have S0:=S.keep f
 have few:=O.few
 refine ok (gG S0.ns (by decide)) (h1 P c at_ _ here _ _ S0 (by rw[hl];exact few) λw4 m f4 hm q4=>ok (fV q4) ?_)
 have nm:n≠m:=bG (aM hn.lt hm)
 refine iD (Giv.cell (J:=λw'=>At w' m (.list ((mAt at_ here).map nv))) λw' f=>f) (RmI P c at_ op spot w₁ D R n here m rm2 fr) (λξ ξ ξ h=>h.casesOn λξ ξ ξ ξ ξ h=>h) (.mk _ _ _ (f.trans f4) ((f4.at hn).cast (by simp)) q4)
  (λρ w' h=>h.casesOn λd e w5 f5 c5 m5=>k _ _ ⟨_,_,rfl,f5,c5.cast (by rw[bM])⟩) λj mv hj ρ w' h R2 hR2=>h.casesOn λd e w5 f5 c5 m5=>?_
 have S5:=S.keep f5
 have hmv:mv<P.able.length:=by rw[←hl];exact(aB.mp (nE.mp (aF hj))).1
 refine(S5.rowI hmv).casesOn λr e1 hr hrow=>ok (fQ c5) (ok (fld S5.ns (by decide) rfl rfl) (ok (S5.rowV e1) (ok (fQ c5) (ok (vG (fQ hrow) ?_) (hR2 _ _ (.mk _ _ _ (f5.set (.inr hw) _) ((c5.put _).cast ?_) (m5.set nm.symm _)))))))
 ·have:=Kt O hl here (j+1)
  rw[pV hj,aD] at this
  rw[aD,aA,aA,aD]
  have:lim=100000:=rfl
  lia
 ·rw[pV hj,←bV,aI (l₂:=ab P mv)]
theorem XZ(P:Pg)(w₀:W)(q:Br w₀ w D R r)(hn:At w n (.list (fr.map nv)))(hR:R≠n)(d e:V)(hr:∀j,((fr.take j).foldl oN r).length<64):GoS (stW G C (gH 3 Cu)) [.obj 1 c.p,nv op,.ref D,.ref R,nv spot,.bool rm2,nv here,.ref n,d,e] w
  (λρ w'=>∃d e,ρ=[.obj 1 c.p,nv op,.ref D,.ref R,nv spot,.bool rm2,nv here,.ref n,d,e]∧Br w₀ w' D R (fr.foldl oN r)):=λK2 k=>by
 refine ok (fV hn) (iD (Giv.cell (J:=λw'=>At w' n (.list (fr.map nv))) λw' f=>f) (RfI (P:Pg) c op spot w₀ D R n here rm2 fr r) (λξ ξ ξ h=>h.casesOn λξ ξ ξ ξ h=>h) (.mk _ _ _ q hn)
  (λρ w' h=>h.casesOn λd e w5 q5 c5=>k _ _ ⟨_,_,rfl,by rw[bM] at q5;exact q5⟩) λj o hj ρ w' h R2 hR2=>h.casesOn λd e w5 q5 c5=>?_)
 have ea:(fr.take (j+1)).foldl oN r=oN ((fr.take j).foldl oN r) o:=by rw[gS hj,eO];rfl
 have rm:∀f:Nat→V,(((fr.take j).foldl oN r).map f).length<lim:=λf=>by rw[aA];exact cO (hr j) (by decide)
 refine ok (q5.in o) (nB (λno=>?_) λyes=>hR2 _ _ (.mk _ _ _ (by rw[ea,oN,if_pos yes];exact q5) c5))
 refine ok (nP q5.d (by rw[aA];exact cO (hr j) (by decide))) (ok (fQ (q5.r1 _)) (ok (fQ (q5.r1 _)) (ok (gZ (q5.r1 _) (rm _)) (hR2 _ _ (.mk _ _ _ (by rw[ea,oN,if_neg no];exact q5.add no) ((c5.set (q5.d.dl c5).symm _).set hR.symm _))))))
end
section
variable{G:List Int}{C:Cl}{w:W}{K:Kv}
theorem KF(h1:CR C):xB (gR G C):=λP c at_ op w K O S hl hop k=>by
 have hsm:=O.small
 refine⟨rfl,tH λK1 hK1=>xJ (RwI P c at_ op w) (λx=>P.lows.length-x.2.1) ?_ ([op],0,false) (.mk _ _ _ _ _ _ _ ⟨(Fm.refl.add _).add _,(At.new _ _).add _,At.new _ _,aO _,eQ _⟩ (RcI.zero hop))⟩
 rintro⟨r,spot,room⟩ ρ w3 zz
 refine zz.casesOn λD R a b d e w3 q I R' hR=>?_
 have S3:=S.keep q.fm
 have rl:r.length≤P.lows.length:=jH I.nodup I.lt
 refine ok q.len (dB (λlt=>?_) λge=>hK1 _ _ _ (ok (EL q.d ?_) (k _ _ _ _ (q.fm.add _) q.fm.next (At.new _ _) (Ug I ?_))))
 ·have lt:spot<r.length:=cH.mp lt
  have he:r[spot]?=some r[spot]:=aC lt
  generalize r[spot]=here at he
  have hm:here<P.lows.length:=I.lt _ (aF he)
  have S4:=S3.keep ((Fm.refl (M:=λξ=>False) (w:=w3)).add (.list []))
  refine ok (q.item he) (XY (Fm.refl.add _) (aO _) O S4 hm (At.new _ _) _ _ _ λρ w' h=>h.casesOn λrm2 fr d e w4 f4 c4 F=>XX h1 O S3 hl F.len c4 (aO _) f4 _ _ _ λρ w5 ⟨d,e,hρ,f5,c5⟩=>?_)
  subst hρ
  obtain⟨I2,lt2⟩:=I.step O he F.all
  refine XZ P w (q.post f5) c5 (bG q.r.lt) _ _ ?_ _ λρ w6 zz=>?_
  ·exact λj=>aQ (LU I O he F.all j) (by exact bD (bD (bD (bD hsm))))
  ·obtain⟨d,e,rfl,q6⟩:=zz
   exact hR (_,spot+1,rm2) _ _ (.mk _ _ _ _ _ _ _ q6 I2) (Nat.sub_lt_sub_left (aM lt rl) (cV _))
 ·exact aQ rl (cO hsm (by decide))
 ·have:¬((spot:Nat):Int)<(r.length:Nat):=ge
  simp_all +arith
end
noncomputable def Rv:Fn:=⟨4,4,none,mV⟩
noncomputable def at0(n:Nat):List Int:=aV n (-1)
theorem Ow(n o:Nat):cn (at0 n) o=0:=by
 unfold at0 cn
 rw[List.count_replicate,if_neg (by intro h;have:=beq_iff_eq.mp h;simp_all)];rfl
theorem Xj{P:Pg}(h:∀o,o<P.lows.length→0≤hi P o):oH P (at0 P.able.length) 0 where
 len:=dK
 on k h:=absurd h (cU _)
 off k _ h:=by unfold at0 at h ⊢;rw[dK] at h;rw[List.getElem?_replicate,if_pos h]
 hi o ho:=by rw[Ow];exact h o ho
theorem Vv(n m:Nat):(ctL (at0 n) m).map V.int=aV m (.int 0):=by
 unfold ctL
 rw[cL]
 apply eX
 intro i
 rw[aK,List.getElem?_replicate]
 by_cases h:i<m
 ·rw[cI h,if_pos h];exact congrArg (λx=>some (V.int x)) (Ow n i)
 ·rw[bN (by rw[aP];simp_all),if_neg h];rfl
theorem Em{w:W}{n k:Nat}{x:V}(h:At w n (.list [x]))(hl:k≤lim):Db .Mult w (.ref n) (nv k)=some (.ref w.next,w.add (.list (aV k x))):=by
 show((iS w (.ref n)).bind λxs=>(kY (nv k)).bind λk=>List.casesOn (motive:=λξ=>Option (V×W)) xs none λx r=>if r.isEmpty∧0≤k then newList (aV k.toNat x) w else none)=_
 rw[fQ h]
 show(if([]:List V).isEmpty=true∧0≤((k:Nat):Int) then newList (aV ((k:Nat):Int).toNat x) w else none)=_
 rw[if_pos ⟨rfl,bU k⟩,dO]
 exact Ei (by rw[dK];exact hl)
structure Zl(w:W)(P:Pg)(p A L H:Nat)(rs:List Nat):Prop where
 ns:At w p (.ns [])
 able:At w A (.list (rs.map .ref))
 rl:rs.length=P.able.length
 row:∀k,k<P.able.length→∃r,rs[k]?=some r∧At w r (.list ((ab P k).map nv))
 lows:At w L (.list (P.lows.map .int))
 highs:At w H (.list (P.highs.map .int))
noncomputable def yY(C:Cl):Prop:=∀P p A L H rs w K,P.Ok→Zl w P p A L H rs→(∀w' T N,iQ w' P ⟨p,A,L,H,T,N,rs⟩ (at0 P.able.length) (ctL (at0 P.able.length) P.lows.length)→Fm (· = p) w w'→w.next≤T→w.next≤N→K .none w')→C Rv [.obj 1 p,.ref A,.ref L,.ref H] w K
section
variable{G:List Int}{C:Cl}{w:W}{K:Kv}
theorem Qn:yY (gR G C):=λP p A L H rs w K O S k=>by
 have few:=O.few
 have small:=O.small
 have l3:lim=100000:=rfl
 refine⟨rfl,okN (hY S.ns (by decide) (by decide:0<100)) (Stq.mk' S.ns) λw1 z1=>okN (hY z1.ns (by decide) (by decide:1<100)) (Stq.mk' z1.ns) λw2 z2=>okN (hY z2.ns (by decide) (by decide:2<100)) (Stq.mk' z2.ns) λw3 z3=>?_⟩
 have f3:=z1.fm.trans (z2.fm.trans z3.fm)
 have old:∀{n l},At w n (.list l)→At w3 n (.list l):=λh=>f3.keep _ _ (S.ns.nl h).symm h
 have f4:Fm0 w3 (w3.add (.list [.int (-1)])):=Fm.refl.add _
 have eA:((rs.map V.ref).length:Nat)=P.able.length:=(aA ..).trans S.rl
 refine ok (gJ (f4.at (old S.able))) (ok (Em (At.new _ _) (by rw[eA];lia)) (okN (hY ((z3.ns.add _).add _) (by decide) (by decide:3<100)) (Stp.mk' (z3.ns.add (.list [.int (-1)]))) λw5 z5=>?_))
 have f5:=f3.trans (f4.up.trans z5.fm)
 have old5:∀{n l},At w n (.list l)→At w5 n (.list l):=λh=>f5.keep _ _ (S.ns.nl h).symm h
 have f6:Fm0 w5 (w5.add (.list [.int 0])):=Fm.refl.add _
 have eL:((P.lows.map V.int).length:Nat)=P.lows.length:=aA ..
 refine ok (gJ (f6.at (old5 S.lows))) (ok (Em (At.new _ _) (by rw[eL];lia)) (okN (hY ((z5.ns.add _).add _) (by decide) (by decide:4<100)) (Stp.mk' (z5.ns.add (.list [.int 0]))) λw7 z7=>?_))
 have f7:=f5.trans (f6.up.trans z7.fm)
 have old7:∀{n l},At w n (.list l)→At w7 n (.list l):=λh=>f7.keep _ _ (S.ns.nl h).symm h
 have n3:w3.next=w.next:=by rw[z3.nx,z2.nx,z1.nx]
 have n5:w5.next=w3.next+2:=z5.nx
 have lp:=S.ns.lt
 have hT:(w3.add (.list [.int (-1)])).next=w3.next+1:=rfl
 have hN:(w5.add (.list [.int 0])).next=w5.next+1:=rfl
 have dT:∀{n l},At w n (.list l)→¬(n=w3.next+1∨n=w5.next+1):=λh z=>z.elim (λe=>dR _ (aM h.lt (by rw[e,n3];exact eQ _))) λe=>dR _ (aM h.lt (by rw[e,n5,n3];exact dG _ 3))
 have aT:At w5 (w3.next+1) (.list ((at0 P.able.length).map .int)):=by
  have:=z5.new
  rw[eA] at this
  exact this.cast (by unfold at0;rw[List.map_replicate])
 have aN:At w7 (w5.next+1) (.list ((ctL (at0 P.able.length) P.lows.length).map .int)):=by
  have:=z7.new
  rw[eL] at this
  exact this.cast (Vv _ _).symm
 have qT:w3.next+1≠p:=by lia
 exact k w7 (w3.next+1) (w5.next+1) ⟨z7.ns,old7 S.able,λk hk=>(S.row k hk).imp λr q=>⟨q.1,dT q.2,old7 q.2⟩,old7 S.lows,old7 S.highs,z7.keep (aT.add _) qT,aN,by show w3.next+1≠w5.next+1;simp +arith [*],dT S.able,dT S.lows,dT S.highs⟩ f7 (by simp[*]) (by simp +arith [*])
end
theorem LY{t:SA}{b:SS}{d1 d2 d3:List V}{K:List V→Out→W→Prop}(h1:d1.length=d2.length)(h2:d1.length=d3.length)(I:Nat→List V→W→Prop)(step:∀j x y z,d1[j]?=some x→d2[j]?=some y→d3[j]?=some z→∀ρ w,I j ρ w→∀R:List V→W→Prop,(∀ρ w,I (j+1) ρ w→R ρ w)→t (.tup [x,y,z]) ρ w λρ w=>b ρ w λρ o w=>Cw o (R ρ w) λd=>K ρ (.ret d) w)(stop:∀ρ w,I d1.length ρ w→K ρ .go w)(k:Nat):∀(j:Nat),j+k=d1.length→∀ρ w,I j ρ w→yE true t b (k+1) (.zip d1 d2 d3 j) ρ w K:=by
 induction k with
 |zero =>
  intro j e ρ w h
  obtain rfl:j=d1.length:=e
  exact ok (show kU (.zip d1 d2 d3 d1.length) w=some none by show some (d1[d1.length]?.bind _)=_;rw[bN (aO _)];rfl) (stop _ _ h)
 |succ k ih =>
  intro j e ρ w h
  have l1:j<d1.length:=e▸fD (fM k)
  have e1:=aC l1
  have e2:=aC (show j<d2.length by exact aM l1 (bH h1))
  have e3:=aC (show j<d3.length by exact aM l1 (bH h2))
  exact ok (show kU (.zip d1 d2 d3 j) w=some (some (.tup [d1[j],d2[j],d3[j]],.zip d1 d2 d3 (j+1))) by show some (d1[j]?.bind _)=_;rw[e1,cE,e2,cE,e3];rfl)
   (step j _ _ _ e1 e2 e3 ρ w h _ λρ w h=>ih (j+1) ((eK j k).trans e) ρ w h)
structure Cq where
 n:Nat
 ws:List Int
 los:List Int
 his:List Int
structure Cq.Ok(Q:Cq):Prop where
 n:2≤Q.n∧Q.n≤4
 l1:Q.ws.length=Q.los.length
 l2:Q.ws.length=Q.his.length
 few:Q.ws.length≤3
 nodup:Q.ws.Nodup
 pos:∀x∈Q.los,0≤x
noncomputable def tk(n:Nat):List V:=(aX n).map λk=>nv (k+1)
noncomputable abbrev iT(l:List Int):V:=.tup (l.map .int)
noncomputable def lG(Q:Cq):V:=.tup [iT Q.ws,iT Q.los,iT Q.his]
noncomputable def cdH(Q:Cq)(W L H:Nat):List (Nat×V):=[(8,.int (-1)),(9,.tup (tk Q.n)),(10,.str 5),(16,.tup (tk Q.n)),(17,lG Q),(18,.ref W),(12,.ref L),(13,.ref H)]
noncomputable def cdF(Q:Cq)(W L H:Nat):List (Nat×V):=[(8,.int (-1)),(9,.tup (tk Q.n)),(10,.str 5),(16,.tup (tk Q.n)),(17,lG Q),(18,.ref W),(12,.ref L),(13,.ref H),(19,.bool false)]
structure Cc where
 q:Nat
 W:Nat
 L:Nat
 H:Nat
structure sW(w:W)(Q:Cq)(c:Cc):Prop where
 ns:At w c.q (.ns (cdF Q c.W c.L c.H))
 ws:At w c.W (.list (Q.ws.map .int))
 los:At w c.L (.list (Q.los.map .int))
 his:At w c.H (.list (Q.his.map .int))
theorem sW.keep{w w':W}{Q:Cq}{c:Cc}(h:sW w Q c)(f:Fm0 w w'):sW w' Q c:=⟨f.at h.ns,f.at h.ws,f.at h.los,f.at h.his⟩
noncomputable def Zz:Fn:=zM
noncomputable def OX:Fn:=⟨4,5,none,mW⟩
noncomputable def SD:Fn:=⟨5,8,some (.cons (.var 1) (.cons (.str 5) .nil)),lC⟩
noncomputable def Vg:Fn:=⟨1,1,none,mX⟩
noncomputable def SF:Fn:=⟨2,5,none,mP⟩
noncomputable def Dj(C:Cl):Prop:=∀q ts w K,At w q (.ns [])→(∀w',Stq w q [(8,.int (-1)),(9,.tup ts),(10,.str 5)] w'→K .none w')→C zM [.obj 2 q,.tup ts,.str 5] w K
structure Wan(w:W)(Wn L H:Nat)(ws los his:List Int):Prop where
 ws:At w Wn (.list (ws.map .int))
 los:At w L (.list (los.map .int))
 his:At w H (.list (his.map .int))
noncomputable def HX(C:Cl):Prop:=∀q f Wn L H ws los his v l h w K,At w q (.ns f)→f.lookup 18=some (.ref Wn)→f.lookup 12=some (.ref L)→f.lookup 13=some (.ref H)→Wan w Wn L H ws los his→Wn≠L→Wn≠H→L≠H→v∉ws→ws.length<100→los.length<100→his.length<100 →
 (∀w',Wan w' Wn L H (ws++[v]) (los++[l]) (his++[h])→Fm (λn=>n=Wn∨n=L∨n=H) w w'→K .none w')→C OX [.obj 2 q,.int v,.int l,.int h] w K
section
variable{G:List Int}{C:Cl}{w:W}{K:Kv}
theorem Qi:Dj (gR G C):=λq ts w K S k =>
 ⟨rfl,okN (hY S (by decide) (by decide:0<100)) (Stq.mk' S) λw1 z1=>okN (hY z1.ns (by decide) (by decide:1<100)) (Stq.mk' z1.ns) λw2 z2=>okN (hY z2.ns (by decide) (by decide:2<100)) (Stq.mk' z2.ns) λw3 z3 =>
  k _ ⟨z3.ns,by rw[z3.nx,z2.nx,z1.nx],z1.fm.trans (z2.fm.trans z3.fm)⟩⟩
theorem vD{l:List Int}(h:l.length<100):(l.map V.int).length<lim:=by rw[aA];exact cO h (by decide)
theorem Uh:HX (gR G C):=λq f Wn L H ws los his v l h w K S e1 e2 e3 Z d1 d2 d3 nv_ n1 n2 n3 k=>by
 have ap:∀{n:Nat} {xs:List Int} {x:Int} {w:W},At w n (.list (xs.map .int))→At (w.set n (.list (xs.map .int++[.int x]))) n (.list ((xs++[x]).map .int)):=λh=>(h.put _).cast (by rw[aI];rfl)
 refine⟨rfl,ok (fld S (by decide) e1 rfl) (ok (DP Z.ws) (dF nv_ ?_))⟩
 refine ok (fld S (by decide) e1 rfl) (ok (fQ Z.ws) (ok (fQ Z.ws) (okN (gZ Z.ws (vD n1)) (Q:=λx=>x.1=.none∧Wan x.2 Wn L H (ws++[v]) los his∧At x.2 q (.ns f)∧Fm (λn=>n=Wn∨n=L∨n=H) w x.2) ⟨rfl,⟨ap Z.ws,Z.los.set d1.symm _,Z.his.set d2.symm _⟩,S.set (S.nl Z.ws) _,Fm.refl.set (.inl (.inl rfl)) _⟩ λx ⟨_,Z1,S1,f1⟩=>?_)))
 refine ok (fld S1 (by decide) e2 rfl) (ok (fQ Z1.los) (ok (fQ Z1.los) (okN (gZ Z1.los (vD n2)) (Q:=λy=>y.1=.none∧Wan y.2 Wn L H (ws++[v]) (los++[l]) his∧At y.2 q (.ns f)∧Fm (λn=>n=Wn∨n=L∨n=H) x.2 y.2) ⟨rfl,⟨Z1.ws.set d1 _,ap Z1.los,Z1.his.set d3.symm _⟩,S1.set (S1.nl Z1.los) _,Fm.refl.set (.inl (.inr (.inl rfl))) _⟩ λy ⟨_,Z2,S2,f2⟩=>?_)))
 refine ok (fld S2 (by decide) e3 rfl) (ok (fQ Z2.his) (ok (fQ Z2.his) (ok (gZ Z2.his (vD n3)) ?_)))
 exact k _ ⟨Z2.ws.set d2 _,Z2.los.set d3 _,ap Z2.his⟩ (f1.trans (f2.trans (Fm.refl.set (.inl (.inr (.inr rfl))) _)))
end
theorem Fm.fresh{M M':Nat→Prop}{w w1 w2:W}(a:Fm M w w1)(b:Fm M' w1 w2)(h:∀n,M' n→M n∨w.next≤n):Fm M w w2:=
 ⟨aE a.next b.next,λn c q k=>b.keep n c (λz=>(h n z).elim q λy=>eF.mpr k.lt y) (a.keep n c q k)⟩
noncomputable def sP(C:Cl):Prop:=∀Q q w K,Q.Ok→At w q (.ns [])→(∀w' c,c.q=q→sW w' Q c→Fm (· = q) w w'→w.next≤c.W→w.next≤c.L→w.next≤c.H→K .none w')→C SD [.obj 2 q,.tup (tk Q.n),iT Q.ws,iT Q.los,iT Q.his] w K
theorem UT{w:W}{n:Nat}(h:2≤n∧n≤4):∃l,Ma w (.tup (tk n))=some l∧l.length=n:=by
 obtain rfl | rfl | rfl:n=2∨n=3∨n=4:=(by decide:∀n<5,2≤n→n=2∨n=3∨n=4) n (fK h.2) h.1
 ·exact⟨[1,2],rfl,rfl⟩
 ·exact⟨[1,2,3],rfl,rfl⟩
 ·exact⟨[1,2,3,4],rfl,rfl⟩
inductive CwI(Q:Cq)(q Wn L H:Nat)(w₀ w₁:W)(j:Nat):List V→W→Prop
 |mk (a b c:V) (w:W):Wan w Wn L H (Q.ws.take j) (Q.los.take j) (Q.his.take j)→At w q (.ns (cdH Q Wn L H))→Fm (· = q) w₀ w→CwI Q q Wn L H w₀ w₁ j [.obj 2 q,.tup (tk Q.n),iT Q.ws,iT Q.los,iT Q.his,a,b,c] w
section
variable{G:List Int}{C:Cl}{w:W}{K:Kv}
theorem qD{α:Type}{l:List α}{j:Nat}{v:α}(h:l.Nodup)(hj:l[j]?=some v):v∉l.take j:=λq=>by
 obtain⟨i,hi,hg⟩:=cQ q
 rw[cS] at hi
 have h1:l[i]?=some v:=by rw[←hg,List.getElem_take,aC]
 exact bG (aM hi (Nat.min_le_left _ _)) ((List.getElem?_inj (aM hi (eI _ _)) h).mp (h1.trans hj.symm))
theorem Qu(h1:Dj C)(h2:HX C):sP (gR G C):=λQ q w K O S k=>by
 refine⟨⟨rfl,_,_,rfl⟩,h1 q _ w _ S λw1 z1=>⟨rfl,okN (hY z1.ns (by decide) (by decide:3<100)) (Stq.mk' z1.ns) λw2 z2=>okN (hY z2.ns (by decide) (by decide:4<100)) (Stq.mk' z2.ns) λw3 z3 =>
  okN (hY (z3.ns.add _) (by decide) (by decide:5<100)) (Stp.mk' z3.ns) λw4 z4=>okN (hY (z4.ns.add _) (by decide) (by decide:6<100)) (Stp.mk' z4.ns) λw5 z5=>okN (hY (z5.ns.add _) (by decide) (by decide:7<100)) (Stp.mk' z5.ns) λw6 z6=>?_⟩⟩
 have l:=S.lt
 have n1:=z1.nx
 have n2:=z2.nx
 have n3:=z3.nx
 have n4:=z4.nx
 have n5:=z5.nx
 have f6:=z1.fm.trans (z2.fm.trans (z3.fm.trans (z4.fm.trans (z5.fm.trans z6.fm))))
 have q3:w3.next≠q:=by lia
 have q4:w4.next≠q:=by lia
 have d1:w3.next≠w4.next:=by exact bG (aM (bH (id (Eq.symm n4))) Nat.le.refl)
 have d2:w3.next≠w5.next:=by simp +arith [*]
 have d3:w4.next≠w5.next:=by exact bG (aM (bH (id (Eq.symm n5))) Nat.le.refl)
 have g:w.next≤w3.next:=by simp +arith [*]
 have g4:w.next≤w4.next:=by exact aE g (bW (bH (id (Eq.symm n4))))
 have g5:w.next≤w5.next:=by exact aE g4 (bW (bH (id (Eq.symm n5))))
 refine⟨by rw[aA,aA];exact O.l1,by rw[aA,aA];exact O.l2,_,LY (by rw[aA,aA];exact O.l1) (by rw[aA,aA];exact O.l2) (CwI Q q w3.next w4.next w5.next w w6) (λj x y z hx hy hz ρ w' h R hR=>?_) (λρ w' h=>h.casesOn λa b c w7 Z S7 f7=>?_) _ 0 (eJ _) _ _ (.mk _ _ _ _ ⟨z6.keep (z5.keep z4.new q3) q3,z6.keep z5.new q4,z6.new⟩ z6.ns f6)⟩
 ·obtain⟨v,hv,rfl⟩:=kW hx
  obtain⟨lo,hlo,rfl⟩:=kW hy
  obtain⟨hi,hhi,rfl⟩:=kW hz
  refine h.casesOn λa b c w7 Z S7 f7=>ok (gG S7 (by decide)) ?_
  have e0:max lo 0=lo:=Int.max_eq_left (O.pos lo (aF hlo))
  have sh:∀l:List Int,Q.ws.length=l.length→(l.take j).length<100:=λl hl=>aQ (List.length_take_le' _ _) (aQ (aE (bH hl.symm) O.few) (by decide))
  show C OX [.obj 2 q,.int v,.int (max lo 0),.int hi] w7 _
  rw[e0]
  exact h2 q _ _ _ _ _ _ _ v lo hi w7 _ S7 rfl rfl rfl Z d1 d2 d3 (qD O.nodup hv) (sh _ rfl) (sh _ O.l1) (sh _ O.l2) λw8 Z8 f8=>hR _ _ (.mk _ _ _ _ (by rw[gS hv,gS hlo,gS hhi];exact Z8)
   (f8.keep _ _ (λz=>z.elim (S7.nl Z.ws) λz=>z.elim (S7.nl Z.los) (S7.nl Z.his)) S7) (f7.fresh f8 λn z=>.inr (by rcases z with rfl | rfl | rfl<;>assumption)))
 ·have ew:Q.ws.take (Q.ws.map V.int).length=Q.ws:=by rw[aA,bM]
  have el:Q.los.take (Q.ws.map V.int).length=Q.los:=by rw[aA,O.l1,bM]
  have eh:Q.his.take (Q.ws.map V.int).length=Q.his:=by rw[aA,O.l2,bM]
  rw[ew,el,eh] at Z
  obtain⟨s,hs,hl⟩:=UT (w:=w7) O.n
  have et:(tk Q.n).length=Q.n:=by unfold tk;rw[aA,aP]
  refine ok hs (ok (fld S7 (by decide) rfl rfl) (ok (hY S7 (by decide) (by decide:8<100)) ?_))
  have e9:decide (((s.length:Nat):Int)<(((tk Q.n).length:Nat):Int))=false:=decide_eq_false (by rw[hl,et];(simp at *;done))
  have S8:=S7.put (.ns (mO 19 (.bool (decide (((s.length:Nat):Int)<(((tk Q.n).length:Nat):Int)))) (cdH Q w3.next w4.next w5.next)))
  rw[e9] at S8
  refine k _ ⟨q,w3.next,w4.next,w5.next⟩ rfl ⟨?_,Z.ws.set (S7.nl Z.ws).symm _,Z.los.set (S7.nl Z.los).symm _,Z.his.set (S7.nl Z.his).symm _⟩ (f7.set (.inl rfl) _) g g4 g5
  rw[e9];exact S8
noncomputable def Hu(Q:Cq):V:=.tup [.str 4,.tup (tk Q.n),iT Q.ws,iT Q.los,iT Q.his]
noncomputable def Di(C:Cl):Prop:=∀Q c w K,sW w Q c→K (Hu Q) w→C Vg [.obj 2 c.q] w K
theorem Ui:Di (gR G C):=λQ c w K S k=>⟨rfl,ok (fld S.ns (by decide) rfl rfl) (ok (fld S.ns (by decide) rfl rfl) k)⟩
noncomputable def lD(Q:Cq)(r:List Int):Prop:=∀(j:Nat) (v l h:Int),Q.ws[j]?=some v→Q.los[j]?=some l→Q.his[j]?=some h→l≤(r.count v:Nat)∧((r.count v:Nat):Int)≤h
noncomputable def zB(C:Cl):Prop:=∀Q c r w K,Q.Ok→sW w Q c→r.length≤100→(∀w' b,Fm0 w w'→(b=true↔lD Q r)→K (.bool b) w')→C SF [.obj 2 c.q,iT r] w K
inductive CkI(Q:Cq)(c:Cc)(r:List Int)(w₀:W)(j:Nat):List V→W→Prop
 |mk (a b d:V) (w:W):Fm0 w₀ w→(∀(i:Nat) (v l h:Int),i<j→Q.ws[i]?=some v→Q.los[i]?=some l→Q.his[i]?=some h→l≤(r.count v:Nat)∧((r.count v:Nat):Int)≤h)→CkI Q c r w₀ j [.obj 2 c.q,iT r,a,b,d] w
theorem Gu{n:Nat}{l:List Int}{i:Int}(h:At w n (.list (l.map .int))):Ge n 4 (l.map .int) [.int i] w=some (.int (l.count i),w):=by
 show((jD (l.map V.int)).bind λl=>if[V.int i].length=1 then some (V.int (l.count i),w) else none)=_
 rw[show jD (l.map V.int)=some l by have:=vC (λi:Int=>i) l;rwa [List.map_id'] at this];rfl
theorem Qv:zB (gR G C):=λQ c r w K O S hr k=>by
 have rw_:∀w,jF w (lG Q) (.int 0)=some (iT Q.ws):=λw=>rfl
 refine⟨rfl,ok (fld S.ns (by decide) rfl rfl) (ok (fld S.ns (by decide) rfl rfl) (ok (fld S.ns (by decide) rfl rfl) ⟨by rw[aA,aA];exact O.l1,by rw[aA,aA];exact O.l2,_,LY (by rw[aA,aA];exact O.l1) (by rw[aA,aA];exact O.l2) (CkI Q c r w)
  (λj x y z hx hy hz ρ w' h R hR=>?_) (λρ w' h=>h.casesOn λa b d w1 f1 hk=>?_) _ 0 (eJ _) _ _ (.mk _ _ _ _ .refl λi v l h q=>absurd q (cU _))⟩))⟩
 ·obtain⟨v,hv,rfl⟩:=kW hx
  obtain⟨lo,hlo,rfl⟩:=kW hy
  obtain⟨hi,hhi,rfl⟩:=kW hz
  refine h.casesOn λa b d w1 f1 hk=>?_
  have no:¬(lo≤(r.count v:Nat)∧((r.count v:Nat):Int)≤hi)→¬lD Q r:=λq K=>q (K j v lo hi hv hlo hhi)
  have c1:=At.new w1 (.list (r.map .int))
  refine ok (fQ c1) (ok (fQ c1) (ok (Gu c1) (dB (λq1=>nB (λq2=>k _ _ (f1.add _) ⟨λh=>(nomatch h),λh=>absurd h (no λz=>q2 z.2)⟩) λq2=>hR _ _ (.mk _ _ _ _ (f1.add _) λi v' l' h' hi2 a1 a2 a3=>?_)) λq1=>k _ _ (f1.add _) ⟨λh=>(nomatch h),λh=>absurd h (no λz=>q1 z.1)⟩)))
  rcases bO.mp hi2 with hi2 | rfl
  ·exact hk i v' l' h' hi2 a1 a2 a3
  ·rw[hv] at a1;rw[hlo] at a2;rw[hhi] at a3
   cases a1;cases a2;cases a3
   exact⟨q1,q2⟩
 ·exact k _ _ f1 ⟨λξ j v l h a1 a2 a3=>hk j v l h (by rw[aA];exact(aB.mp a1).1) a1 a2 a3,λξ=>rfl⟩
end
noncomputable def De(d:Dm)(v:Int):Dm:=match d.getLast? with
 |none=>d++[(v,v)]
 |some p=>if p.2=v-1 then d.dropLast++[(p.1,v)] else d++[(v,v)]
noncomputable def mkD(l:List Int):Dm:=l.foldl De []
noncomputable def iE:List (List Int):=[[],[1],[2],[3],[4],[1,2],[1,3],[1,4],[2,3],[2,4],[3,4],[1,2,3],[1,2,4],[1,3,4],[2,3,4],[1,2,3,4]]
noncomputable def wE:List Int:=[0,1,2,3,4,5]
noncomputable def hX(s:Nat)(k v:Int):Bool:=if s=0 then decide (v≤k) else if s=1 then decide (k≤v) else if s=2 then decide (v=k) else decide (v≠k)
theorem uF:∀l∈iE,pW (mkD l)=l:=by decide +kernel
theorem uG:∀l∈iE,mkD l=[]→l=[]:=by decide +kernel
theorem MJ:∀l∈iE,JN (mkD l)=l.length:=by decide +kernel
theorem Ba:∀l∈iE,l.Nodup:=by decide +kernel
theorem mZ:∀l∈iE,l.length≤4:=by decide +kernel
theorem MN:∀l∈iE,∀v∈l,v∈wE:=by decide +kernel
theorem ML:∀l∈iE,∀v∈wE,decide (rP (mkD l) v=some v)=decide (v∈l):=by decide +kernel
theorem Ch:∀l∈iE,∀s,s<4→∀k∈wE,l.filter (hX s k)∈iE∧gW s k (mkD l)=mkD (l.filter (hX s k)):=by decide +kernel
theorem MK:∀l∈iE,(mkD l).length≤10∧∀p∈mkD l,-10≤p.1∧p.1≤10∧-10≤p.2∧p.2≤10:=by decide +kernel
theorem oO{l:List Int}(h:l∈iE):Dok (mkD l):=⟨(MK l h).1,(MK l h).2⟩
theorem Ii{l l':List Int}(h:l∈iE)(h':l'∈iE)(e:mkD l=mkD l'):l=l':=by rw[←uF l h,e,uF l' h']
structure Dom(σ:Sr)(L:List (List Int)):Prop where
 doms:σ.doms=[(0,7)]::L.map mkD
 sub:∀l∈L,l∈iE
 ne:∀l∈L,l≠[]
section
variable{σ:Sr}{L:List (List Int)}{k:Nat}{l:List Int}
theorem Dom.at(D:Dom σ L)(h:L[k]?=some l):σ.doms[k+1]?=some (mkD l):=by
 rw[D.doms,List.getElem?_cons_succ,aK,h];rfl
theorem Dom.mem(D:Dom σ L)(h:L[k]?=some l):l∈iE:=D.sub l (aF h)
theorem Dom.mkne(D:Dom σ L)(h:L[k]?=some l):mkD l≠[]:=λq=>D.ne l (aF h) (uG l (D.mem h) q)
end
structure Cq.Val(Q:Cq):Prop extends Q.Ok where
 vals:∀v∈Q.ws,v∈wE
 le:∀(j:Nat) l h,Q.los[j]?=some l→Q.his[j]?=some h→l≤h
noncomputable def pS(Q:Cq)(l:List Int):List Nat:=(aX Q.ws.length).filter λk=>decide (Q.ws.getD k 0∈l)
noncomputable def mB(Q:Cq)(l:List Int):List Nat:=if(pS Q l).length<l.length then pS Q l++[Q.ws.length] else pS Q l
theorem OG(Q:Cq)(l:List Int):(pS Q l).length≤Q.ws.length:=by
 have:=bZ (λk=>decide (Q.ws.getD k 0∈l)) (aX Q.ws.length)
 rwa [aP] at this
theorem BU{Q:Cq}{k:Nat}(h:k<Q.ws.length):Q.ws[k]?=some (Q.ws.getD k 0):=by rw[aL,aC h];rfl
noncomputable def LA:Fn:=⟨3,4,none,kH⟩
noncomputable def sM(C:Cl):Prop:=∀Q c σ sc L k l w K,Q.Val→sW w Q c→iP w σ sc→Dom σ L→L[k]?=some l→(∀w' n,Fm0 w w'→w.next≤n→At w' n (.list ((mB Q l).map nv))→K (.ref n) w')→C LA [.obj 2 c.q,.obj 0 sc.s,nv (k+1)] w K
theorem add_list{w:W}{m n:Nat}{xs ys:List V}(h1:At w m (.list xs))(h2:At w n (.list ys))(hl:(xs++ys).length≤lim):Db .Add w (.ref m) (.ref n)=some (.ref w.next,w.add (.list (xs++ys))):=by
 show((iS w (.ref m)).bind λxs=>(iS w (.ref n)).bind λys=>newList (xs++ys) w)=_
 rw[fQ h1,cE,fQ h2];exact Ei hl
section
variable{G:List Int}{C:Cl}{w:W}{K:Kv}
theorem KG(h1:HZ C)(h2:Dh C):sM (gR G C):=λQ c σ sc L k l w K O S T D hl kk=>by
 have few:=O.few
 have l3:lim=100000:=rfl
 have el:((Q.ws.map V.int).length:Nat)=Q.ws.length:=aA ..
 refine⟨rfl,ok (fld S.ns (by decide) rfl rfl) (ok (gJ S.ws) (bT (by rw[el];exact lY (by lia)) ?_))⟩
 refine gM (aX Q.ws.length) nv (show Giv _ (lP 0 (Q.ws.map V.int).length) _ by rw[el];exact Giv.nat _ _) (λj=>decide (Q.ws.getD j 0∈l)) nv (λi=>[nv i]) (λξ ξ=>rfl) (by rw[aP];show 0+Q.ws.length≤lim;lia) (λi hi w' f T' F t f'=>?_) λw' f=>?_
 ·have hi:=cK.mp hi
  have S1:=S.keep f
  have T1:=T.keep0 f
  have ev:=BU hi
  refine ok (gG T1.ns (by decide)) (ok (fld S1.ns (by decide) rfl rfl) (ok (fY S1.ws (by rw[aK,ev];rfl)) (h1 sc σ (k+1) _ _ (D.at hl) _ _ T1 λw2 f2=>?_)))
  rw[ML l (D.mem hl) _ (O.vals _ (aF ev))]
  exact bB (λq=>t _ f2 q) λq=>f' _ f2 q
 ·have S1:=S.keep (f.add (.list ((pS Q l).map nv)))
  have T1:=T.keep0 (f.add (.list ((pS Q l).map nv)))
  have hh:=OG Q l
  refine ok (gG T1.ns (by decide)) (h2 sc σ (k+1) _ (D.at hl) (oO (D.mem hl)) _ _ T1 λw2 f2=>?_)
  have c2:At w2 w'.next (.list ((pS Q l).map nv)):=f2.at (At.new _ _)
  rw[MJ l (D.mem hl)]
  refine ok (gJ c2) ?_
  have e2:(((pS Q l).map nv).length:Nat)=(pS Q l).length:=aA ..
  rw[e2]
  refine dB (λq=>?_) λq=>kk _ _ ((f.add _).trans f2) f.next (c2.cast (by rw[mB,if_neg λz=>q (cH.mpr z)]))
  have S2:=S1.keep f2
  refine ok (fld S2.ns (by decide) rfl rfl) (ok (gJ S2.ws) (ok (add_list (c2.add _) (At.new _ _) ?_) (kk _ _ ((((f.add _).trans f2).add _).add _) (dN (aE f.next (aE (eQ _) f2.next))) ((At.new _ _).cast ?_))))
  ·rw[aD,e2];show(pS Q l).length+1≤lim;lia
  ·rw[mB,if_pos (cH.mp q),aI,el];rfl
end
noncomputable abbrev stK(L:List (List Int))(k:Nat):List Lit:=stL ((k+1:Nat):Int) (mkD (L.getD k []))
noncomputable def oB(L:List (List Int))(at_:List Int)(opts:List Nat):List Lit:=opts.flatMap λo=>(mAt at_ o).flatMap (stK L)
noncomputable abbrev ltK(Q:Cq)(k o:Nat):Lit:=(((k+1:Nat):Int),3,Q.ws.getD o 0)
noncomputable abbrev lkK(Q:Cq)(at_:List Int)(opts:List Nat)(k:Nat):List Lit:=if at_.getD k 0∈opts.map (λo=>((o:Nat):Int)) then[] else opts.map (ltK Q k)
noncomputable def rE(Q:Cq)(at_:List Int)(opts:List Nat):List Lit:=(aX Q.n).flatMap (lkK Q at_ opts)
theorem FV(x:Int):∀(d:Dm) (l:Int),(yD x l d).length=(yD 0 l d).length
 |[],_=>rfl
 |p::d,l=>by rw[pT,pT,aD,aD,aA,aA,FV x d]
theorem QT:∀l∈iE,(yD 0 (Ae (mkD l)-1) (mkD l)).length≤4:=by decide +kernel
theorem IG{x:Int}{l:List Int}(h:l∈iE):(stL x (mkD l)).length≤6:=by
 have:=QT l h
 rw[stL,aD,FV]
 exact fO this 2
theorem Qa{σ:Sr}{L:List (List Int)}(D:Dom σ L)(k:Nat):(stK L k).length≤6:=by
 refine IG ?_
 rw[aL]
 cases q:L[k]? with
 |none=>decide
 |some l=>exact D.mem q
theorem mN{α:Type}{l:List α}{j n:Nat}(h:l.length≤n):(l.take j).length≤n:=cS▸aE (eI _ _) h
theorem Ff{σ:Sr}{L:List (List Int)}{at_:List Int}(D:Dom σ L)(h:at_.length≤4)(o j:Nat):(((mAt at_ o).take j).flatMap (stK L)).length≤24:=by
 exact aE (rK (b:=6) ((mAt at_ o).take j) λk ξ=>Qa D k) (dJ 6 (mN (aE (Ik (at_:=at_) o) h)))
theorem wQ{σ:Sr}{L:List (List Int)}{at_:List Int}{opts:List Nat}(D:Dom σ L)(h:at_.length≤4)(h2:opts.length≤4)(j:Nat):(oB L at_ (opts.take j)).length≤96:=by
 exact aE (rK (b:=24) (f:=λo=>(mAt at_ o).flatMap (stK L)) (opts.take j) λo ξ=>by
  have:=Ff D h o (mAt at_ o).length
  rwa [bM] at this) (dJ 24 (mN h2))
theorem RY{Q:Cq}{at_:List Int}{opts:List Nat}(h:opts.length≤4)(k:Nat):(lkK Q at_ opts k).length≤4:=by
 unfold lkK
 by_cases q:at_.getD k 0∈opts.map (λo=>((o:Nat):Int))
 ·rw[if_pos q];exact cX _
 ·rw[if_neg q,aA];exact h
theorem AP{Q:Cq}{at_:List Int}{opts:List Nat}(h:opts.length≤4)(hn:Q.n≤4)(j:Nat):(((aX Q.n).take j).flatMap (lkK Q at_ opts)).length≤16:=by
 exact aE (rK (b:=4) (f:=lkK Q at_ opts) ((aX Q.n).take j) λk ξ=>RY h k) (dJ 4 (mN (by rw[aP];exact hn)))
noncomputable def Vr:Fn:=⟨4,7,none,lB⟩
noncomputable def Vp:Fn:=⟨3,5,none,lJ⟩
noncomputable def xE(C:Cl):Prop:=∀Q c σ sc L P pc at_ cs opts n w K,Q.Ok→sW w Q c→iP w σ sc→Dom σ L→L.length=Q.n→iQ w P pc at_ cs→at_.length=Q.n→At w n (.list (opts.map nv))→opts.length≤4 →
 (∀w' m,Fm0 w w'→w.next≤m→At w' m (.list ((oB L at_ opts).map iG))→K (.ref m) w')→C Vr [.obj 2 c.q,.obj 0 sc.s,.obj 1 pc.p,.ref n] w K
noncomputable def xD(C:Cl):Prop:=∀Q c P pc at_ cs opts n w K,Q.Ok→sW w Q c→iQ w P pc at_ cs→at_.length=Q.n→At w n (.list (opts.map nv))→opts.length≤4→(∀o∈opts,o<Q.ws.length) →
 (∀w' m,Fm0 w w'→w.next≤m→At w' m (.list ((rE Q at_ opts).map iG))→K (.ref m) w')→C Vp [.obj 2 c.q,.obj 1 pc.p,.ref n] w K
theorem EB{w:W}{n k:Nat}(h:k<n):jF w (.tup (tk n)) (nv k)=some (nv (k+1)):=pN (by unfold tk;rw[aK,cI h];rfl)
theorem hG{α:Type}{l:List α}{k:Nat}{x d:α}(h:l[k]?=some x):l.getD k d=x:=by rw[aL,h];rfl
inductive CfI(Q:Cq)(c:Cc)(sc:Sc)(pc:Plc)(L:List (List Int))(at_:List Int)(opts:List Nat)(n m:Nat)(w₀:W)(j:Nat):List V→W→Prop
 |mk (a b:V) (w:W):Fm0 w₀ w→At w m (.list ((oB L at_ (opts.take j)).map iG))→CfI Q c sc pc L at_ opts n m w₀ j [.obj 2 c.q,.obj 0 sc.s,.obj 1 pc.p,.ref n,.ref m,a,b] w
inductive CgI(Q:Cq)(c:Cc)(sc:Sc)(pc:Plc)(L:List (List Int))(at_:List Int)(acc:List Lit)(o n m r:Nat)(w₀:W)(j:Nat):List V→W→Prop
 |mk (b:V) (w:W):Fm0 w₀ w→At w m (.list ((acc++((mAt at_ o).take j).flatMap (stK L)).map iG))→At w r (.list ((mAt at_ o).map nv))→CgI Q c sc pc L at_ acc o n m r w₀ j [.obj 2 c.q,.obj 0 sc.s,.obj 1 pc.p,.ref n,.ref m,nv o,b] w
section
variable{G:List Int}{C:Cl}{w:W}{K:Kv}
theorem Ux(h1:CR C)(h2:xX C)(h3:oF C):xE (gR G C):=λQ c σ sc L P pc at_ cs opts n w K O S T D hL Z ha hn ho k=>by
 have few:at_.length≤4:=by have:=O.n;simp +arith [*]
 have l3:lim=100000:=rfl
 refine⟨rfl,ok (fV (hn.add _)) (iD (Giv.cell (J:=Fm0 w) λw' f=>f.at hn) (CfI Q c sc pc L at_ opts n w.next w) (λξ ξ ξ h=>h.casesOn λξ ξ ξ f ξ=>f) (.mk _ _ _ (Fm.refl.add _) (At.new _ _))
  (λρ w' h=>h.casesOn λa b w1 f1 c1=>k _ _ f1 (aO _) (c1.cast (by rw[bM]))) λj o hj ρ w' h R hR=>h.casesOn λa b w1 f1 c1=>?_)⟩
 have Z1:=Z.keep f1
 refine ok (gG Z1.ns (by decide)) (h1 P pc at_ _ o _ _ Z1 (by lia) λw2 r f2 hr q2=>ok (fV q2) ?_)
 have nr:r≠w.next:=cP (aM c1.lt hr)
 refine iD (Giv.cell (J:=λw'=>At w' r (.list ((mAt at_ o).map nv))) λw' f=>f) (CgI Q c sc pc L at_ (oB L at_ (opts.take j)) o n w.next r w) (λξ ξ ξ h=>h.casesOn λξ ξ ξ ξ h=>h) (.mk _ _ (f1.trans f2) ((f2.at c1).cast (by simp)) q2)
  (λρ w' h=>h.casesOn λb w3 f3 c3 ξ=>hR _ _ (.mk _ _ _ f3 (c3.cast ?_))) λi k hi ρ w' h R2 hR2=>h.casesOn λb w3 f3 c3 m3=>?_
 ·rw[bM,gS hj];unfold oB;rw[List.flatMap_append];simp
 ·have S3:=S.keep f3
  have T3:=T.keep0 f3
  have hk:k<Q.n:=by rw[←ha];exact(aB.mp (nE.mp (aF hi))).1
  have hl:L[k]?=some (L.getD k []):=by rw[aL,aC (by simp +arith [*])];rfl
  refine ok (fQ c3) (ok (fld S3.ns (by decide) rfl rfl) (ok (EB hk) (ok (gG T3.ns (by decide)) (ok (fld S3.ns (by decide) rfl rfl) (ok (EB hk) (h2 sc σ (k+1) _ (D.at hl) _ _ T3 λw4 f4=>h3 _ (oO (D.mem hl)) (D.mkne hl) _ _ _ λw5 s f5 hs q5=>?_))))))
  have c5:=f5.at (f4.at c3)
  refine ok (fQ c5) (ok (vG (fQ q5) ?_) (hR2 _ _ (.mk _ _ ((f3.trans (f4.trans f5)).set (.inr (aO _)) _) ((c5.put _).cast ?_) ((f5.at (f4.at m3)).set nr _))))
  ·have a1:=wQ D few ho j
   have a2:=Ff D few o (i+1)
   rw[pV hi,aD] at a2
   rw[aD,aA,aA,aD]
   exact aE (Nat.add_assoc _ _ _▸dH a1 a2) (by decide)
  ·rw[pV hi,←bV,aI (l₂:=stK L k)]
inductive LkI(Q:Cq)(c:Cc)(pc:Plc)(at_:List Int)(opts:List Nat)(n m:Nat)(w₀:W)(j:Nat):List V→W→Prop
 |mk (a:V) (w:W):Fm0 w₀ w→At w m (.list ((((aX Q.n).take j).flatMap (lkK Q at_ opts)).map iG))→LkI Q c pc at_ opts n m w₀ j [.obj 2 c.q,.obj 1 pc.p,.ref n,.ref m,a] w
theorem Ut:xD (gR G C):=λQ c P pc at_ cs opts n w K O S Z ha hn ho hlt k=>by
 have l3:lim=100000:=rfl
 have few:=O.n
 have el:(tk Q.n).length=Q.n:=by unfold tk;rw[aA,aP]
 have S0:=S.keep ((Fm.refl (M:=λξ=>False) (w:=w)).add (.list []))
 refine⟨rfl,ok (fld S0.ns (by decide) rfl rfl) (bT (by rw[el];exact lY (by lia)) ?_)⟩
 refine iD (show Giv (λξ=>True) (lP 0 (tk Q.n).length) ((aX Q.n).map nv) by rw[el];exact Giv.nat _ _) (LkI Q c pc at_ opts n w.next w) (λξ ξ ξ ξ=>trivial) (.mk _ _ (Fm.refl.add _) (At.new _ _))
  (λρ w' h=>h.casesOn λa w1 f1 c1=>k _ _ f1 (aO _) (c1.cast (by rw[bM];rfl))) λj mb hj ρ w' h R hR=>h.casesOn λa w1 f1 c1=>?_
 obtain⟨jl,rfl⟩:j<Q.n∧mb=j:=by
  have:=(aB.mp hj).1
  rw[aP] at this
  rw[cI this] at hj
  exact⟨this,(Option.some.inj hj).symm⟩
 have S1:=S.keep f1
 have Z1:=Z.keep f1
 have hat:at_[mb]?=some (at_.getD mb 0):=by rw[aL,aC (by simp +arith [*])];rfl
 have e2:=pV (f:=lkK Q at_ opts) hj
 have ll:=AP (Q:=Q) (at_:=at_) ho few.2 (mb+1)
 refine ok (fld Z1.ns (by decide) rfl rfl) (ok (fY Z1.at_ (by rw[aK,hat];rfl)) (ok (nS ((f1.at hn).cast (nvs opts))) (nB (λno=>?_) λyes=>hR _ _ (.mk _ _ f1 (c1.cast (by rw[e2,lkK,if_pos yes,cD]))))))
 have elk:lkK Q at_ opts mb=opts.map (ltK Q mb):=if_neg no
 rw[elk] at e2
 refine ok (fQ c1) (ok (fV (f1.at hn)) (rR opts nv (Giv.cell λw' f=>(f1.trans f).at hn) (λo=>iG (ltK Q mb o)) (λo=>[nv o]) (λξ ξ=>rfl) (by show 0+opts.length≤lim;lia) (λo h' w2 f2 T F t=>?_) λw2 f2=>?_))
 ·have S2:=S1.keep f2
  have hv:=BU (hlt o h')
  exact ok (fld S2.ns (by decide) rfl rfl) (ok (EB jl) (ok (fld S2.ns (by decide) rfl rfl) (ok (fY S2.ws (by rw[aK,hv];rfl)) (t _ .refl))))
 ·have c2:=(f2.add (.list (opts.map λo=>iG (ltK Q mb o)))).at c1
  refine ok (fQ c2) (ok (vG (fQ (At.new _ _)) ?_) (hR _ _ (.mk _ _ (((f1.trans f2).add _).set (.inr (aO _)) _) ((c2.put _).cast ?_))))
  ·rw[e2,aD,aA] at ll
   rw[aD,aA,List.nil_append,aA]
   exact aE ll (by decide)
  ·rw[e2,aI,cL];rfl
end
noncomputable def opt(Q:Cq)(v:Int):Nat:=Q.ws.idxOf v
theorem wF{α:Type}[DecidableEq α]:∀{a b:List α},a.Nodup→(∀x∈a,x∈b)→a.length≤b.length
 |[],_,_,_=>cX _
 |x::a,b,h,q=>by
  rw[cZ] at h
  have hx:=q x aZ
  have:=wF (b:=b.erase x) h.2 λy hy=>(List.mem_erase_of_ne λe=>h.1 (by rw[←e];exact hy)).mpr (q y (bA _ hy))
  rw[List.length_erase_of_mem hx] at this
  exact Nat.add_le_of_le_sub (List.length_pos_of_mem hx) this
section
variable{Q:Cq}{l:List Int}{v:Int}{o:Nat}
theorem Cx:opt Q v≤Q.ws.length:=List.idxOf_le_length
theorem wD:opt Q v<Q.ws.length↔v∈Q.ws:=List.idxOf_lt_length_iff
theorem wC(O:Q.Ok)(h:o<Q.ws.length):opt Q (Q.ws.getD o 0)=o:=by
 rw[aL,aC h]
 exact O.nodup.idxOf_getElem o h
theorem qV(h:opt Q v<Q.ws.length):Q.ws.getD (opt Q v) 0=v:=by
 rw[aL,aC h]
 exact List.getElem_idxOf h
theorem lK:o∈pS Q l↔o<Q.ws.length∧Q.ws.getD o 0∈l:=by
 unfold pS;rw[bX,cK,decide_eq_true_iff]
theorem Ri(O:Q.Ok)(hl:l.Nodup):(pS Q l).length=(l.filter λv=>decide (v∈Q.ws)).length:=by
 have nd:(pS Q l).Nodup:=List.Pairwise.filter _ List.nodup_range
 apply eV
 ·rw[←aA (f:=λo=>Q.ws.getD o 0)]
  refine wF ?_ λx hx=>?_
  ·refine List.pairwise_map.mpr (nd.imp_of_mem ?_)
   intro a b ha hb q e
   rw[←wC O (lK.mp ha).1,←wC O (lK.mp hb).1,e] at q
   exact q rfl
  ·obtain⟨o,ho,rfl⟩:=bL.mp hx
   exact bX.mpr ⟨(lK.mp ho).2,decide_eq_true (aF (BU (lK.mp ho).1))⟩
 ·rw[←aA (f:=opt Q)]
  refine wF ?_ λx hx=>?_
  ·refine List.pairwise_map.mpr ((hl.filter _).imp_of_mem ?_)
   intro a b ha hb q e
   have ha:=of_decide_eq_true (bX.mp ha).2
   have hb:=of_decide_eq_true (bX.mp hb).2
   rw[←qV (wD.mpr ha),←qV (wD.mpr hb),e] at q
   exact q rfl
  ·obtain⟨v,hv,rfl⟩:=bL.mp hx
   have hv:=bX.mp hv
   have h2:=wD.mpr (of_decide_eq_true hv.2)
   exact lK.mpr ⟨h2,by rw[qV h2];exact hv.1⟩
theorem JA(O:Q.Ok)(hl:l.Nodup):(pS Q l).length<l.length↔∃v∈l,v∉Q.ws:=by
 rw[Ri O hl]
 constructor
 ·intro h
  refine Classical.byContradiction λq=>?_
  rw[fC.mpr λa ha=>decide_eq_true (Classical.byContradiction λz=>q ⟨a,ha,z⟩)] at h
  exact dR _ h
 ·rintro⟨v,hv,hn⟩
  refine fF (bZ _ _) λe=>?_
  have:=fC.mp (eD.mp e |> fC.mpr) v hv
  exact hn (of_decide_eq_true this)
theorem NM(O:Q.Ok)(hl:l.Nodup):o∈mB Q l↔∃v∈l,opt Q v=o:=by
 have key:o∈mB Q l↔o∈pS Q l∨(o=Q.ws.length∧∃v∈l,v∉Q.ws):=by
  unfold mB
  by_cases q:(pS Q l).length<l.length
  ·rw[if_pos q,bQ,aG]
   exact or_congr Iff.rfl ⟨λh=>⟨h,(JA O hl).mp q⟩,λh=>h.1⟩
  ·rw[if_neg q]
   exact⟨.inl,λh=>h.elim id λh=>absurd ((JA O hl).mpr h.2) q⟩
 rw[key,lK]
 constructor
 ·rintro(⟨h1,h2⟩ | ⟨rfl,v,h1,h2⟩)
  ·exact⟨_,h2,wC O h1⟩
  ·exact⟨v,h1,eV Cx (dM.mp λz=>h2 (wD.mp z))⟩
 ·rintro⟨v,h1,rfl⟩
  by_cases q:opt Q v<Q.ws.length
  ·exact .inl ⟨q,by rw[qV q];exact h1⟩
  ·exact .inr ⟨eV Cx (dM.mp q),v,h1,λz=>q (wD.mpr z)⟩
theorem GZ(Q:Cq)(l:List Int):(mB Q l).Nodup:=by
 have nd:(pS Q l).Nodup:=List.Pairwise.filter _ List.nodup_range
 unfold mB
 by_cases q:(pS Q l).length<l.length
 ·rw[if_pos q]
  exact dI.mpr ⟨nd,by simp,λa ha b hb=>by rw[aG.mp hb];exact bG (lK.mp ha).1⟩
 ·rw[if_neg q];exact nd
theorem RH(h:o∈mB Q l):o<Q.ws.length+1:=by
 unfold mB at h
 by_cases q:(pS Q l).length<l.length
 ·rw[if_pos q,bQ,aG] at h
  rcases h with h | rfl
  ·exact bD (lK.mp h).1
  ·exact cV _
 ·rw[if_neg q] at h
  exact bD (lK.mp h).1
end
noncomputable def Say(l:Lit)(r:List Int):Prop:=∃v,r[(l.1-1).toNat]?=some v∧hX l.2.1 l.2.2 v=true
noncomputable def Hol(l:Lit)(L:List (List Int)):Prop:=∃k d,l.1=((k+1:Nat):Int)∧l.2.1<4∧L[k]?=some d∧∀v∈d,hX l.2.1 l.2.2 v=true
structure Ds(Q:Cq)(L:List (List Int))(k:Nat)(v:Int)(ls:List Lit):Prop where
 hol:∀l∈ls,Hol l L
 no:∀r,r.length=Q.n→lD Q r→r[k]?=some v→¬∀l∈ls,Say l r
noncomputable def teK(k:Nat)(l:List Int)(v:Int)(ls:List Lit):Te:=⟨k+1,mkD l,(((k+1:Nat):Int),3,v),some ls,-1⟩
noncomputable def QW(σ:Sr)(k:Nat)(l:List Int)(v:Int)(ls:List Lit):Sr:={σ with trail:=σ.trail++[teK k l v ls],doms:=σ.doms.set (k+1) (mkD (l.filter (hX 3 v))),nn:=σ.nn+1}
inductive Run(Q:Cq)(σ:Sr)(L:List (List Int)):Sr→List (List Int)→Prop
 |nil:Run Q σ L σ L
 |snoc (σ':Sr) (L':List (List Int)) (k:Nat) (l:List Int) (v:Int) (ls:List Lit):Run Q σ L σ' L'→L'[k]?=some l→v∈l→l.filter (hX 3 v)≠[]→Ds Q L' k v ls→ls.length<lim→Run Q σ L (QW σ' k l v ls) (L'.set k (l.filter (hX 3 v)))
noncomputable def tot(L:List (List Int)):Nat:=(L.map List.length).sum
theorem CZ:∀{L:List (List Int)} {k:Nat} {l l':List Int},L[k]?=some l→tot (L.set k l')+l.length=tot L+l'.length
 |[],_,_,_,h=>nomatch h
 |a::L,0,l,l',h=>by
  obtain rfl:a=l:=Option.some.inj h
  show(l'.length+tot L)+a.length=(a.length+tot L)+l'.length
  simp_all +arith
 |a::L,k+1,l,l',h=>by
  have:=CZ (L:=L) (k:=k) (l':=l') h
  show(a.length+tot (L.set k l'))+l.length=(a.length+tot L)+l'.length
  simp_all +arith
section
variable{Q:Cq}{σ σ':Sr}{L L':List (List Int)}
theorem zT{v x:Int}:hX 3 v x=true↔x≠v:=by
 show decide (x≠v)=true↔_
 exact decide_eq_true_iff
theorem CG{l:List Int}{v:Int}(h:v∈l):(l.filter (hX 3 v)).length<l.length:=by
 refine fF (bZ _ _) λe=>?_
 exact zT.mp (eD.mp e v h) rfl
theorem Run.len(R:Run Q σ L σ' L'):L'.length=L.length:=by
 induction R with
 |nil=>rfl
 |snoc σ' L' k l v ls R hk hv hn J _ ih=>rw[bR];exact ih
theorem Run.dom(R:Run Q σ L σ' L')(D:Dom σ L):Dom σ' L':=by
 induction R with
 |nil=>exact D
 |snoc σ' L' k l v ls R hk hv hn J _ ih =>
  have hl:=ih.mem hk
  refine⟨?_,λl2 h2=>?_,λl2 h2=>?_⟩
  ·show σ'.doms.set (k+1) _=_
   rw[ih.doms,List.set_cons_succ,eW]
  ·rcases eR h2 with h2 | rfl
   ·exact ih.sub _ h2
   ·exact(Ch l hl 3 (by decide) v (MN l hl v hv)).1
  ·rcases eR h2 with h2 | rfl
   ·exact ih.ne _ h2
   ·exact hn
theorem Run.size(R:Run Q σ L σ' L'):σ'.trail.length+tot L'≤σ.trail.length+tot L∧σ'.nn+tot L'≤σ.nn+tot L:=by
 induction R with
 |nil=>exact⟨aO _,aO _⟩
 |snoc σ' L' k l v ls R hk hv hn J _ ih =>
  have h1:=CZ (l':=l.filter (hX 3 v)) hk
  have h2:=CG hv
  have e1:(QW σ' k l v ls).trail.length=σ'.trail.length+1:=aD
  exact⟨e1▸Tn h1 h2 ih.1,Tn h1 h2 ih.2⟩
noncomputable def Wth(r:List Int)(L:List (List Int)):Prop:=r.length=L.length∧∀(k:Nat) v l,r[k]?=some v→L[k]?=some l→v∈l
theorem sI{l:Lit}{r:List Int}(h:Hol l L)(w:Wth r L):Say l r:=by
 obtain⟨k,d,h1,_,h2,h3⟩:=h
 have lt:k<r.length:=by rw[w.1];exact(aB.mp h2).1
 have e:(l.1-1).toNat=k:=by rw[h1];(simp at *;done)
 exact⟨r[k],by rw[e,aC lt],h3 _ (w.2 k _ _ (aC lt) h2)⟩
theorem Run.row(R:Run Q σ L σ' L')(hn:L.length=Q.n){r:List Int}(K:lD Q r)(w:Wth r L):Wth r L':=by
 induction R with
 |nil=>exact w
 |snoc σ' L' k l v ls R hk hv hne J _ ih =>
  refine⟨by rw[bR];exact ih.1,λj x m hx hm=>?_⟩
  by_cases q:k=j
  ·subst q
   rw[cJ (aB.mp hk).1] at hm
   rw[←Option.some.inj hm]
   refine bX.mpr ⟨ih.2 k x l hx hk,zT.mpr λe=>?_⟩
   subst e
   exact J.no r (w.1.trans hn) K hx λl hl=>sI (J.hol l hl) ih
  ·rw[cB q] at hm;exact ih.2 j x m hx hm
theorem SH{k:Nat}{l:List Int}{v:Int}{ls:List Lit}(D:Dom σ L)(hk:L[k]?=some l)(hv:v∈l)(hn:l.filter (hX 3 v)≠[]) :
  yF σ (k+1) (((k+1:Nat):Int),3,v) (some ls) (-1) (mkD l)=QW σ k l v ls∧gW 3 v (mkD l)≠[]:=by
 have hl:=D.mem hk
 obtain⟨s1,s2⟩:=Ch l hl 3 (by decide) v (MN l hl v hv)
 have n1:gW 3 v (mkD l)≠[]:=by rw[s2];exact λq=>hn (uG _ s1 q)
 have n2:gW 3 v (mkD l)≠mkD l:=by
  rw[s2];intro q
  have:=CG hv
  rw[Ii s1 hl q] at this
  exact dR _ this
 refine⟨?_,n1⟩
 unfold yF
 rw[if_neg n1,if_neg n2]
 unfold QW teK
 rw[s2]
end
noncomputable abbrev inR(R:List Nat)(a:Int):Bool:=decide (a∈R.map λo=>((o:Nat):Int))
theorem kE{R:List Nat}{o:Nat}:inR R (o:Int)=true↔o∈R:=by rw[decide_eq_true_iff];exact pI
theorem MI(a:Int):∀(R:List Nat),R.Nodup→(R.map λo=>dl a (o:Nat)).sum=if inR R a=true then 1 else 0
 |[],_=>rfl
 |o::R,h=>by
  rw[cZ] at h
  rw[aY,fA,MI a R h.2]
  by_cases q:a=(o:Int)
  ·subst q
   rw[show dl (o:Int) (o:Nat)=1 from if_pos rfl,if_neg λz=>h.1 (kE.mp z),if_pos (kE.mpr aZ)];rfl
  ·rw[show dl a (o:Nat)=0 from if_neg q,Int.zero_add]
   have:inR (o::R) a=inR R a:=decide_eq_decide.mpr (by rw[aY,bJ];exact⟨λz=>z.elim (λz=>absurd z q) id,.inr⟩)
   rw[this]
theorem IA{α:Type}(f g:α→Int):∀(l:List α),(l.map λx=>f x+g x).sum=(l.map f).sum+(l.map g).sum
 |[]=>rfl
 |x::l=>by rw[aY,fA,IA f g l,aY,fA,aY,fA];simp_all +arith
theorem Cg{α:Type}{f g:α→Int}:∀{l:List α},(∀x∈l,f x≤g x)→(l.map f).sum≤(l.map g).sum
 |[],_=>Int.le_refl _
 |x::l,h=>by
  rw[aY,fA,aY,fA]
  exact Int.add_le_add (h x aZ) (Cg λy hy=>h y (bA _ hy))
theorem MG{α:Type}{f g:α→Int}:∀{l:List α},(∀x∈l,f x≤g x)→(∃x∈l,f x<g x)→(l.map f).sum<(l.map g).sum
 |[],_,h=>(h.elim λx z=>nomatch z.1)
 |x::l,h,q=>by
  have h1:=Cg (l:=l) λy hy=>h y (bA _ hy)
  have h2:=h x aZ
  rw[aY,fA,aY,fA]
  obtain⟨y,hy,lt⟩:=q
  rcases bJ.mp hy with rfl | hy
  ·exact Int.add_lt_add_of_lt_of_le lt h1
  ·exact Int.add_lt_add_of_le_of_lt h2 (MG (λy hy=>h y (bA _ hy)) ⟨y,hy,lt⟩)
theorem SP(a:Int)(as:List Int)(o:Nat):cn (a::as) o=dl a (o:Nat)+cn as o:=by
 unfold cn dl
 rw[eU]
 by_cases q:a=(o:Int)
 ·rw[if_pos q,if_pos (beq_iff_eq.mpr q)];simp_all +arith
 ·rw[if_neg q,if_neg λz=>q (beq_iff_eq.mp z)];(simp at *;done)
theorem tI{R:List Nat}(h:R.Nodup):∀(at_:List Int),(R.map (cn at_)).sum=((at_.countP (inR R):Nat):Int)
 |[]=>by
  have:∀R:List Nat,(R.map (cn [])).sum=0:=λR=>by induction R with
   |nil=>rfl
   |cons o R ih=>rw[aY,fA,ih];rfl
  exact this R
 |a::as=>by
  rw[show cn (a::as)=λo=>dl a (o:Nat)+cn as o from funext λo=>SP a as o,IA,MI a R h,tI h as,fL]
  by_cases q:inR R a=true
  ·rw[if_pos q,if_pos q];simp_all +arith
  ·rw[if_neg q,if_neg q];(simp at *;done)
theorem Gz{p:Int→Bool}:∀{a b:List Int},a.length=b.length→(∀(k:Nat) x y,a[k]?=some x→b[k]?=some y→p x=true→p y=true)→a.countP p≤b.countP p
 |[],[],_,_=>aO _
 |x::a,y::b,hl,h=>by
  have h1:=Gz (a:=a) (b:=b) (eY.inj hl) λk=>h (k+1)
  have h2:=h 0 x y rfl rfl
  rw[fL,fL]
  by_cases q:p x=true
  ·rw[if_pos q,if_pos (h2 q)];exact Nat.succ_le_succ h1
  ·rw[if_neg q];exact aE h1 (dG _ _)
theorem Gy{p:Int→Bool}:∀{a b:List Int},a.length=b.length→(∀(k:Nat) x y,a[k]?=some x→b[k]?=some y→p x=true→p y=true)→(∃(k:Nat) (x y:Int),a[k]?=some x∧b[k]?=some y∧p x=false∧p y=true)→a.countP p<b.countP p
 |[],[],_,_,h=>(h.elim λk z=>z.elim λx z=>z.elim λy z=>nomatch z.1)
 |x::a,y::b,hl,h,z=>by
  obtain⟨k,x',y',e1,e2,e3,e4⟩:=z
  have h1:=Gz (a:=a) (b:=b) (eY.inj hl) λk=>h (k+1)
  have h2:=h 0 x y rfl rfl
  rw[fL,fL]
  cases k with
  |zero =>
   cases e1;cases e2
   rw[if_neg (by rw[e3];decide),if_pos e4];exact aM (aQ h1 Nat.le.refl) Nat.le.refl
  |succ k =>
   have h3:=Gy (a:=a) (b:=b) (eY.inj hl) (λk=>h (k+1)) ⟨k,x',y',e1,e2,e3,e4⟩
   by_cases q:p x=true
   ·rw[if_pos q,if_pos (h2 q)];exact Nat.succ_lt_succ h3
   ·rw[if_neg q];exact aM h3 (dG _ _)
theorem Lu{P:Pg}{at_ ar:List Int}{R:List Nat}(hR:R.Nodup)(hl:at_.length=ar.length)(full:∀o∈R,hi P o≤cn at_ o)(keep:∀o∈R,cn ar o≤hi P o)(up:∀(k:Nat) x y,at_[k]?=some x→ar[k]?=some y→inR R x=true→inR R y=true)(more:∃(k:Nat) (x y:Int),at_[k]?=some x∧ar[k]?=some y∧inR R x=false∧inR R y=true):False:=by
 have h1:=Gy hl up more
 have h2:=Cg (l:=R) λo ho=>aS (keep o ho) (full o ho)
 rw[tI hR,tI hR] at h2
 exact eF.mpr h1 (dP.mp h2)
theorem QP{P:Pg}{at_ ar:List Int}{R:List Nat}(hR:R.Nodup)(hl:ar.length=at_.length)(low:∀o∈R,cn at_ o≤lo P o)(keep:∀o∈R,lo P o≤cn ar o)(down:∀(k:Nat) x y,ar[k]?=some x→at_[k]?=some y→inR R x=true→inR R y=true)(less:(∃o∈R,cn at_ o<lo P o)∨∃(k:Nat) (x y:Int),ar[k]?=some x∧at_[k]?=some y∧inR R x=false∧inR R y=true):False:=by
 rcases less with less | less
 ·have h1:=Gz hl down
  have h2:=MG (f:=cn at_) (g:=cn ar) (l:=R) (λo ho=>aS (low o ho) (keep o ho)) (less.elim λo z=>⟨o,z.1,fH z.2 (keep o z.1)⟩)
  rw[tI hR,tI hR] at h2
  exact eF.mpr (cH.mp h2) h1
 ·have h1:=Gy hl down less
  have h2:=Cg (f:=cn at_) (g:=cn ar) (l:=R) λo ho=>aS (low o ho) (keep o ho)
  rw[tI hR,tI hR] at h2
  exact eF.mpr h1 (dP.mp h2)
noncomputable abbrev fZ(Q:Cq)(L:List (List Int)):Pg:=⟨L.map (mB Q),Q.los++[0],Q.his++[(Q.n:Int)+1]⟩
noncomputable def sU(Q:Cq)(r:List Int):List Int:=r.map λv=>((opt Q v:Nat):Int)
section
variable{Q:Cq}{L:List (List Int)}{r:List Int}{o:Nat}
theorem PS{k:Nat}{v:Int}(h:r[k]?=some v):(sU Q r)[k]?=some ((opt Q v:Nat):Int):=by unfold sU;rw[aK,h];rfl
theorem PR{k:Nat}{x:Int}(h:(sU Q r)[k]?=some x):∃v,r[k]?=some v∧((opt Q v:Nat):Int)=x:=kW h
theorem Ox(O:Q.Ok)(h:o<Q.ws.length):cn (sU Q r) o=((r.count (Q.ws.getD o 0):Nat):Int):=by
 have:∀r:List Int,(sU Q r).count ((o:Nat):Int)=r.count (Q.ws.getD o 0):=λr=>by
  induction r with
  |nil=>rfl
  |cons v r ih =>
   show List.count ((o:Nat):Int) (((opt Q v:Nat):Int)::sU Q r)=_
   rw[eU,eU,ih]
   congr 1
   by_cases q:v=Q.ws.getD o 0
   ·rw[if_pos (beq_iff_eq.mpr q),if_pos (beq_iff_eq.mpr (by rw[q,wC O h]))]
   ·rw[if_neg λz=>q (beq_iff_eq.mp z),if_neg λz=>q ?_]
    have e:opt Q v=o:=dS.mp (beq_iff_eq.mp z)
    subst e;exact(qV h).symm
 exact congrArg _ (this r)
theorem uR(O:Q.Ok)(h:o<Q.ws.length):Q.los[o]?=some (lo (fZ Q L) o):=by
 have h2:o<Q.los.length:=O.l1▸h
 unfold lo
 rw[aL,aJ h2,aC h2];rfl
theorem FT(O:Q.Ok)(h:o<Q.ws.length):Q.his[o]?=some (hi (fZ Q L) o):=by
 have h2:o<Q.his.length:=O.l2▸h
 unfold hi
 rw[aL,aJ h2,aC h2];rfl
theorem yR(O:Q.Ok):lo (fZ Q L) Q.ws.length=0:=by
 unfold lo
 rw[aL,O.l1,bP (aO _),eM];rfl
theorem Iz(O:Q.Ok):hi (fZ Q L) Q.ws.length=(Q.n:Int)+1:=by
 unfold hi
 rw[aL,O.l2,bP (aO _),eM];rfl
theorem jT(O:Q.Ok):(fZ Q L).lows.length=Q.ws.length+1:=by show(Q.los++[0]).length=_;rw[aD,O.l1];rfl
theorem RZ(O:Q.Ok)(K:lD Q r)(h:o<Q.ws.length+1):lo (fZ Q L) o≤cn (sU Q r) o:=by
 rcases bO.mp h with h | rfl
 ·rw[Ox O h];exact(K o _ _ _ (BU h) (uR O h) (FT (L:=L) O h)).1
 ·rw[yR O];exact bU _
theorem ZO(at_:List Int)(o:Nat):cn at_ o≤(at_.length:Nat):=dP.mpr List.count_le_length
theorem Ra(O:Q.Ok)(K:lD Q r)(hr:r.length=Q.n)(h:o<Q.ws.length+1):cn (sU Q r) o≤hi (fZ Q L) o:=by
 rcases bO.mp h with h | rfl
 ·rw[Ox O h];exact(K o _ _ _ (BU h) (uR (L:=L) O h) (FT O h)).2
 ·rw[Iz O]
  have:=ZO (sU Q r) Q.ws.length
  have e:(sU Q r).length=r.length:=aA ..
  lia
theorem Bi(O:Q.Ok)(hl:L.length=Q.n)(hs:∀l∈L,l∈iE):(fZ Q L).Ok where
 len:=by show(Q.his++[_]).length=(Q.los++[_]).length;rw[aD,aD,←O.l1,←O.l2];rfl
 lt l hm o ho:=by
  obtain⟨d,hd,rfl⟩:=bL.mp hm
  rw[jT O];exact RH ho
 nodup l hm:=by
  obtain⟨d,hd,rfl⟩:=bL.mp hm
  exact GZ Q d
 small:=by rw[jT O];have:=O.few;lia
 few:=by show(L.map _).length<100;rw[aA];have:=O.n;lia
theorem Tu{k:Nat}{l:List Int}(h:L[k]?=some l):ab (fZ Q L) k=mB Q l:=hG (by show(L.map _)[k]?=_;rw[aK,h];rfl)
theorem pE{k:Nat}{l:List Int}(O:Q.Ok)(hs:∀l∈L,l∈iE)(h:L[k]?=some l):o∈ab (fZ Q L) k↔∃v∈l,opt Q v=o:=by
 rw[Tu h];exact NM O (Ba l (hs l (aF h)))
end
theorem OS(x:Int):∀(d:Dm) (l:Int),yD x l d=(yD 0 l d).map λt=>(x,t.2)
 |[],_=>rfl
 |p::d,l=>by rw[pT,pT,aI,cL,←OS x d];rfl
theorem XL(x:Int)(d:Dm):stL x d=(stL 0 d).map λt=>(x,t.2):=by
 rw[stL,stL,aI,OS];rfl
theorem MS:∀l∈iE,∀t∈stL 0 (mkD l),t.2.1<4∧∀v∈l,hX t.2.1 t.2.2 v=true:=by decide +kernel
theorem MT:∀l∈iE,∀v∈wE,(∀t∈stL 0 (mkD l),hX t.2.1 t.2.2 v=true)→v∈l∨l=[]:=by decide +kernel
theorem QY:∀l∈iE,0≤Ae (mkD l)∧xV (mkD l)≤5:=by decide +kernel
theorem IY{v:Int}(h:0≤v∧v≤5):v∈wE:=by
 obtain⟨m,rfl,lt⟩:=NH (n:=6) h.1 (Int.lt_add_one_of_le h.2)
 exact(by decide:∀m:Nat,m<6→(m:Int)∈wE) m lt
section
variable{L L':List (List Int)}{k:Nat}{l l':List Int}{r:List Int}{v:Int}
theorem MU(h:L[k]?=some l):stK L k=(stL 0 (mkD l)).map λt=>(((k+1:Nat):Int),t.2):=by
 unfold stK;rw[hG h,XL]
theorem OE(h:L[k]?=some l)(hs:l∈iE)(h':L'[k]?=some l')(sub:∀v∈l',v∈l){t:Lit}(ht:t∈stK L k):Hol t L':=by
 rw[MU h] at ht
 obtain⟨u,hu,rfl⟩:=bL.mp ht
 obtain⟨h1,h2⟩:=MS l hs u hu
 exact⟨k,l',rfl,h1,h',λv hv=>h2 v (sub v hv)⟩
theorem IL{t:Lit}(h:Say t r)(e:t.1=((k+1:Nat):Int))(hv:r[k]?=some v):hX t.2.1 t.2.2 v=true:=by
 obtain⟨u,h1,h2⟩:=h
 rw[show(t.1-1).toNat=k by rw[e];(simp at *;done),hv] at h1
 rw[Option.some.inj h1];exact h2
theorem Md(h:L[k]?=some l)(hs:l∈iE)(hne:l≠[])(hv:r[k]?=some v)(S:∀t∈stK L k,Say t r):v∈l:=by
 have q:∀t∈stL 0 (mkD l),hX t.2.1 t.2.2 v=true:=λt ht=>IL (t:=(((k+1:Nat):Int),t.2)) (S _ (by rw[MU h];exact bL.mpr ⟨t,ht,rfl⟩)) rfl hv
 have a:=q (0,1,Ae (mkD l)) (by simp[stL])
 have b:=q (0,0,xV (mkD l)) (by simp[stL])
 have a:Ae (mkD l)≤v:=of_decide_eq_true a
 have b:v≤xV (mkD l):=of_decide_eq_true b
 have c:=QY l hs
 exact(MT l hs v (IY ⟨aS c.1 a,aS b c.2⟩) q).elim id λz=>absurd z hne
end
structure Ctx(Q:Cq)(L₀:List (List Int)):Prop where
 O:Q.Val
 n:L₀.length=Q.n
 sub:∀l∈L₀,l∈iE
 ne:∀l∈L₀,l≠[]
noncomputable def Aw(L L₀:List (List Int)):Prop:=L.length=L₀.length∧∀(k:Nat) l l₀,L[k]?=some l→L₀[k]?=some l₀→∀v∈l,v∈l₀
theorem Aw.refl{L:List (List Int)}:Aw L L:=⟨rfl,λk l l₀ h1 h2 v hv=>by rw[h1] at h2;rw[←Option.some.inj h2];exact hv⟩
theorem oM{L:List (List Int)}{k:Nat}(h:k<L.length):L[k]?=some L[k]:=aC h
section
variable{Q:Cq}{L₀ L Lc:List (List Int)}{at_:List Int}{R:List Nat}{r:List Int}{k:Nat}{v:Int}{x:Int}
theorem Ot{o k:Nat}(ho:o∈R)(hk:at_[k]?=some (o:Int)){t:Lit}(ht:t∈stK L k):t∈oB L at_ R:=dZ.mpr ⟨o,ho,dZ.mpr ⟨k,nE.mpr hk,ht⟩⟩
theorem TJ(X:Ctx Q L₀)(sub:∀l∈L,l∈iE)(ne:∀l∈L,l≠[])(le:Aw L L₀)(hl:at_.length=Q.n)(nd:R.Nodup)(lt:∀o∈R,o<Q.ws.length+1)(full:∀o∈R,hi (fZ Q L₀) o≤cn at_ o)(closed:∀o∈R,∀k,at_[k]?=some (o:Int)→∀p∈ab (fZ Q L₀) k,p∈R)(hr:r.length=Q.n)(K:lD Q r)(S:∀t∈oB L at_ R,Say t r)(hk:at_[k]?=some x)(hx:inR R x=false)(hv:r[k]?=some v)(ho:opt Q v∈R):False:=by
 refine Lu (P:=fZ Q L₀) (ar:=sU Q r) nd (by unfold sU;rw[aA,hl,hr]) full (λo h=>Ra X.O.toOk K hr (lt o h)) (λj x y hx hy hR=>?_) ⟨k,x,_,hk,PS hv,hx,kE.mpr ho⟩
 obtain⟨u,hu,rfl⟩:=PR hy
 obtain⟨o,h1,rfl⟩:=bL.mp (of_decide_eq_true hR)
 have jl:j<Q.n:=by rw[←hr];exact(aB.mp hu).1
 have e1:=oM (L:=L) (k:=j) (by rw[le.1,X.n];exact jl)
 have e0:=oM (L:=L₀) (k:=j) (by rw[X.n];exact jl)
 have m1:=aF e1
 have h2:=Md e1 (sub _ m1) (ne _ m1) hu λt ht=>S t (Ot h1 hx ht)
 exact kE.mpr (closed o h1 j hx _ ((pE X.O.toOk X.sub e0).mpr ⟨u,le.2 j _ _ e1 e0 u h2,rfl⟩))
theorem FR(X:Ctx Q L₀)(sub:∀l∈L,l∈iE)(ll:L.length=Q.n)(le:Aw Lc L)(hl:at_.length=Q.n){t:Lit}(ht:t∈oB L at_ R):Hol t Lc:=by
 obtain⟨o,ho,ht⟩:=dZ.mp ht
 obtain⟨j,hj,ht⟩:=dZ.mp ht
 have jl:j<Q.n:=by rw[←hl];exact(aB.mp (nE.mp hj)).1
 have e1:=oM (L:=L) (k:=j) (by simp +arith [*])
 have e2:=oM (L:=Lc) (k:=j) (by rw[le.1];simp +arith [*])
 exact OE e1 (sub _ (aF e1)) e2 (le.2 j _ _ e2 e1) ht
theorem Nk{o k:Nat}(hk:k<Q.n)(ho:o∈R)(h:inR R (at_.getD k 0)=false):ltK Q k o∈rE Q at_ R:=
 dZ.mpr ⟨k,cK.mpr hk,by unfold lkK;rw[if_neg (of_decide_eq_false h)];exact bL.mpr ⟨o,ho,rfl⟩⟩
theorem Ib(X:Ctx Q L₀)(hl:at_.length=Q.n)(nd:R.Nodup)(lt:∀o∈R,o<Q.ws.length)(low:∀o∈R,cn at_ o≤lo (fZ Q L₀) o)(hr:r.length=Q.n)(K:lD Q r)(S:∀t∈rE Q at_ R,Say t r)(less:(∃o∈R,cn at_ o<lo (fZ Q L₀) o)∨∃(k:Nat) (v y:Int),r[k]?=some v∧at_[k]?=some y∧opt Q v∉R∧inR R y=true):False:=by
 refine QP (P:=fZ Q L₀) (ar:=sU Q r) nd (by unfold sU;rw[aA,hl,hr]) low (λo h=>RZ X.O.toOk K (bD (lt o h))) (λj x y hx hy hR=>?_) (less.imp id λz=>by obtain⟨k,v,y,a,b,c,d⟩:=z;exact⟨k,_,y,PS a,b,fJ.mpr λz=>c (kE.mp z),d⟩)
 obtain⟨u,hu,rfl⟩:=PR hx
 have hR:=kE.mp hR
 have jl:j<Q.n:=by rw[←hr];exact(aB.mp hu).1
 refine Classical.byContradiction λq=>?_
 have hn:inR R (at_.getD j 0)=false:=by rw[hG hy];exact fJ.mpr q
 have:=zT.mp (IL (S _ (Nk jl hR hn)) rfl hu)
 exact this (qV (lt _ hR)).symm
theorem FQ(ll:Lc.length=Q.n)(lt:∀o∈R,o<Q.ws.length)(O:Q.Ok)(h:∀(j:Nat) l,j<Q.n→Lc[j]?=some l→inR R (at_.getD j 0)=false→∀v∈l,opt Q v∉R){t:Lit}(ht:t∈rE Q at_ R):Hol t Lc:=by
 obtain⟨j,hj,ht⟩:=dZ.mp ht
 have jl:=cK.mp hj
 unfold lkK at ht
 by_cases q:at_.getD j 0∈R.map (λo=>((o:Nat):Int))
 ·rw[if_pos q] at ht;cases ht
 ·rw[if_neg q] at ht
  obtain⟨o,ho,rfl⟩:=bL.mp ht
  have e2:=oM (L:=Lc) (k:=j) (by simp +arith [*])
  exact⟨j,_,rfl,(by decide:(3:Nat)<4),e2,λv hv=>zT.mpr λe=>h j _ jl e2 (decide_eq_false q) v hv (by rw[e,wC O (lt o ho)];exact ho)⟩
theorem EH(X:Ctx Q L){mem:Nat}(hm:mem<Q.n)(I:oH (fZ Q L) at_ mem)(Z:Pm (fZ Q L) at_ mem R):(∀t∈oB L at_ R++stK L mem,Hol t L)∧∀r,r.length=Q.n→lD Q r→¬∀t∈oB L at_ R++stK L mem,Say t r:=by
 have hl:at_.length=Q.n:=by rw[I.len];show(L.map _).length=_;rw[aA,X.n]
 have e1:=oM (L:=L) (k:=mem) (by rw[X.n];exact hm)
 have m1:=aF e1
 refine⟨λt ht=>(bQ.mp ht).elim (FR X X.sub X.n Aw.refl hl) λht=>OE e1 (X.sub _ m1) e1 (λv hv=>hv) ht,λr hr K S=>?_⟩
 have hv:r[mem]?=some r[mem]:=aC (hr.symm▸hm)
 have h2:=Md e1 (X.sub _ m1) (X.ne _ m1) hv λt ht=>S t (dW _ ht)
 exact TJ X X.sub X.ne Aw.refl hl Z.nodup (λo ho=>by have:=Z.lt o ho;rwa [jT X.O.toOk] at this) Z.full Z.closed hr K (λt ht=>S t (cG _ ht)) (I.off mem (aO _) (hl.symm▸hm))
  (decide_eq_false λz=>by obtain⟨o,_,h⟩:=bL.mp z;lia) hv (Z.base _ ((pE X.O.toOk X.sub e1).mpr ⟨_,h2,rfl⟩))
theorem HD(I:oH (fZ Q L) at_ (fZ Q L).able.length){j:Nat}{y:Int}(h:at_[j]?=some y):∃o∈ab (fZ Q L) j,y=(o:Int):=by
 obtain⟨o,h1,h2⟩:=I.on j (by rw[←I.len];exact(aB.mp h).1)
 rw[h] at h2;exact⟨o,h1,Option.some.inj h2⟩
theorem EQ(X:Ctx Q L){wn:Nat}(hw:wn<Q.ws.length)(Z:JZ (fZ Q L) at_ wn R):∀o∈R,o<Q.ws.length:=λo ho=>by
 have h1:=Z.lt o ho
 rw[jT X.O.toOk] at h1
 refine fF (eG h1) λe=>?_
 have h2:=Z.low o ho (by lia)
 rw[e,yR X.O.toOk] at h2
 lia
theorem ER(X:Ctx Q L){wn:Nat}(hw:wn<Q.ws.length)(I:oH (fZ Q L) at_ (fZ Q L).able.length)(hc:cn at_ wn<lo (fZ Q L) wn)(Z:JZ (fZ Q L) at_ wn R):(∀t∈rE Q at_ R,Hol t L)∧∀r,r.length=Q.n→lD Q r→¬∀t∈rE Q at_ R,Say t r:=by
 have hl:at_.length=Q.n:=by rw[I.len];show(L.map _).length=_;rw[aA,X.n]
 have lt:=EQ X hw Z
 refine⟨λt ht=>FQ X.n lt X.O.toOk (λj l jl e q v hv z=>?_) ht,λr hr K S=>Ib X hl Z.nodup lt (λo ho=>?_) hr K S (.inl ⟨wn,Z.base,hc⟩)⟩
 ·obtain⟨p,hp,e2⟩:=Z.closed _ z j ((pE X.O.toOk X.sub e).mpr ⟨v,hv,rfl⟩)
  rw[hG e2] at q
  rw[kE.mpr hp] at q;cases q
 ·by_cases e:o=wn
  ·subst e;exact fN hc
  ·exact(Z.low o ho e).1
noncomputable def kQ(Q:Cq)(F:List Nat):List Nat:=(aX Q.ws.length).filter λo=>!decide (o∈F)&&decide (0<Q.los.getD o 0)
theorem Bn{o:Nat}(O:Q.Ok):o∈kQ Q R↔o<Q.ws.length∧o∉R∧0<lo (fZ Q L₀) o:=by
 unfold kQ
 rw[bX,cK,dE,dU,decide_eq_false_iff_not,decide_eq_true_iff]
 constructor
 ·rintro⟨h1,h2,h3⟩;exact⟨h1,h2,by have:=uR (L:=L₀) O h1;rwa [hG this] at h3⟩
 ·rintro⟨h1,h2,h3⟩;exact⟨h1,h2,by have:=uR (L:=L₀) O h1;rwa [hG this]⟩
structure Sol(Q:Cq)(L₀:List (List Int))(at_:List Int):Prop where
 pl:oH (fZ Q L₀) at_ (fZ Q L₀).able.length
 lo:∀o,o<Q.ws.length+1→lo (fZ Q L₀) o≤cn at_ o
theorem Sol.len(X:Ctx Q L₀)(S:Sol Q L₀ at_):at_.length=Q.n:=by rw[S.pl.len];show(L₀.map _).length=_;rw[aA,X.n]
theorem Kl(X:Ctx Q L₀)(Z:Sol Q L₀ at_){o:Nat}{F:List Nat}(H:Rch (fZ Q L₀) at_ o F true)(le:Aw Lc L₀){y:Int}(hk:at_[k]?=some y)(hy:inR F y=false)(hv:opt Q v∈F):Ds Q Lc k v (rE Q at_ (kQ Q F)):=by
 have hl:=Z.len X
 have nd:(kQ Q F).Nodup:=List.Pairwise.filter _ List.nodup_range
 have ms:=λo=>Bn (o:=o) (L₀:=L₀) (R:=F) X.O.toOk
 have out:∀(j:Nat) (y:Int),at_[j]?=some y→inR F y=false→inR (kQ Q F) y=true:=λj y hj hy=>by
  obtain⟨p,hp,rfl⟩:=HD Z.pl hj
  have np:p∉F:=λz=>by rw[kE.mpr z] at hy;cases hy
  have pl:p<Q.ws.length+1:=by have:=tE (Bi X.O.toOk X.n X.sub) hp;rwa [jT X.O.toOk] at this
  have h1:¬lo (fZ Q L₀) p<cn at_ p:=λz=>np (H.late rfl p (by rw[jT X.O.toOk];exact pl) z)
  have h2:=Ov hj
  refine kE.mpr ((ms p).mpr ⟨fF (eG pl) λe=>?_,np,by omega⟩)
  rw[e,yR X.O.toOk] at h1
  rw[e] at h2
  exact h1 h2
 refine⟨λt ht=>FQ (le.1.trans X.n) (λp hp=>((ms p).mp hp).1) X.O.toOk (λj l jl e q u hu z=>?_) ht,λr hr K hr2 S=>Ib X hl nd (λp hp=>((ms p).mp hp).1) (λp hp=>?_) hr K S (.inr ⟨k,v,y,hr2,hk,λz=>((ms _).mp z).2.1 hv,out k y hk hy⟩)⟩
 ·have ej:at_[j]?=some at_[j]:=aC (by simp +arith [*])
  rw[hG ej] at q
  have hin:inR F at_[j]=true:=by
   cases q2:inR F at_[j] with
   |true=>rfl
   |false=>rw[out j _ ej q2] at q;cases q
  obtain⟨p,hp,ep⟩:=HD Z.pl ej
  rw[ep] at hin ej
  have e0:=oM (L:=L₀) (k:=j) (by rw[X.n];exact jl)
  exact((ms _).mp z).2.1 (H.closed p (kE.mp hin) j ej _ ((pE X.O.toOk X.sub e0).mpr ⟨u,le.2 j _ _ e e0 u hu,rfl⟩))
 ·obtain⟨h1,h2,_⟩:=(ms p).mp hp
  exact fG.mp λz=>h2 (H.late rfl p (by rw[jT X.O.toOk];exact bD h1) z)
theorem Km(X:Ctx Q L₀)(Z:Sol Q L₀ at_){o:Nat}{F:List Nat}(H:Rch (fZ Q L₀) at_ o F false)(sub:∀l∈L,l∈iE)(ne:∀l∈L,l≠[])(le:Aw L L₀)(lc:Aw Lc L){y:Int}(hk:at_[k]?=some y)(hy:inR F y=false)(hv:opt Q v∈F):Ds Q Lc k v (oB L at_ F):=
 ⟨λt ht=>FR X sub (le.1.trans X.n) lc (Z.len X) ht,λr hr K hr2 S=>TJ X sub ne le (Z.len X) H.nodup (λo ho=>by have:=H.lt o ho;rwa [jT X.O.toOk] at this) (H.no rfl) H.closed hr K S hk hy hr2 hv⟩
end
noncomputable def Re(P:Pg)(at_:List Int)(p a:Nat):Prop:=∀T:Nat→Prop,T p→(∀o,T o→∀k,at_[k]?=some (o:Int)→∀q∈ab P k,T q)→((∃o,o<P.lows.length∧T o∧cn at_ o<hi P o)→∀o,o<P.lows.length→lo P o<cn at_ o→T o)→T a
theorem Rch.re{P:Pg}{at_:List Int}{op a:Nat}{F:List Nat}{room:Bool}(H:Rch P at_ op F room):a∈F↔Re P at_ op a:=
 ⟨λh T t1 t2 t3=>H.least T t1 t2 t3 a h,λh=>h (·∈F) H.base H.closed λ⟨o,_,h1,h2⟩ p h3 h4=>by
  cases q:room with
  |true=>exact H.late q p h3 h4
  |false=>exact absurd (H.no q o h1) (by simp_all)⟩
noncomputable def Kp(P:Pg)(at_:List Int)(k p:Nat):Prop:=∃a:Nat,at_[k]?=some (a:Int)∧Re P at_ p a
structure Cut(L₀ L:List (List Int))(B:Nat→Int→Prop):Prop where
 len:L.length=L₀.length
 mem:∀(k:Nat) l₀ l,L₀[k]?=some l₀→L[k]?=some l→∀v,v∈l↔v∈l₀∧B k v
section
variable{L₀ L:List (List Int)}{B B':Nat→Int→Prop}{k:Nat}{v:Int}{l:List Int}
theorem Cut.congr(h:Cut L₀ L B)(q:∀(k:Nat) l₀,L₀[k]?=some l₀→∀v∈l₀,B k v↔B' k v):Cut L₀ L B':=⟨h.len,λk l₀ l h1 h2 v=>(h.mem k l₀ l h1 h2 v).trans ⟨λz=>⟨z.1,(q k l₀ h1 v z.1).mp z.2⟩,λz=>⟨z.1,(q k l₀ h1 v z.1).mpr z.2⟩⟩⟩
theorem Cut.less(h:Cut L₀ L B):Aw L L₀:=⟨h.len,λk l l₀ h1 h2 v hv=>((h.mem k l₀ l h2 h1 v).mp hv).1⟩
theorem Cut.strike(h:Cut L₀ L B)(hk:L[k]?=some l):Cut L₀ (L.set k (l.filter (hX 3 v))) λj x=>B j x∧¬(j=k∧x=v):=by
 refine⟨by rw[bR];exact h.len,λj l₀ m h1 h2 x=>?_⟩
 by_cases q:k=j
 ·subst q
  rw[cJ (aB.mp hk).1] at h2
  rw[←Option.some.inj h2,bX,h.mem k l₀ l h1 hk x,zT]
  exact⟨λz=>⟨z.1.1,z.1.2,λy=>z.2 y.2⟩,λz=>⟨⟨z.1,z.2.1⟩,λy=>z.2.2 ⟨rfl,y⟩⟩⟩
 ·rw[cB q] at h2
  exact(h.mem j l₀ m h1 h2 x).trans ⟨λz=>⟨z.1,z.2,λy=>q y.1.symm⟩,λz=>⟨z.1,z.2.1⟩⟩
end
noncomputable def Bo(Q:Cq)(L₀:List (List Int))(at_:List Int)(o:Nat)(k:Nat)(v:Int):Prop:=opt Q v<o→Kp (fZ Q L₀) at_ k (opt Q v)
noncomputable def nJ(Q:Cq)(L₀:List (List Int))(at_:List Int)(o:Nat)(F:List Nat):List Nat:=(aX Q.n).filter λk=>decide (o∈ab (fZ Q L₀) k)&&!inR F (at_.getD k 0)
section
variable{Q:Cq}{L₀ L:List (List Int)}{at_:List Int}{o k:Nat}{F:List Nat}{room:Bool}
theorem sF:k∈nJ Q L₀ at_ o F↔k<Q.n∧o∈ab (fZ Q L₀) k∧inR F (at_.getD k 0)=false:=by
 unfold nJ
 rw[bX,cK,dE,decide_eq_true_iff,dU]
theorem Cn(X:Ctx Q L₀)(Z:Sol Q L₀ at_)(h:k<Q.n):∃a∈ab (fZ Q L₀) k,at_[k]?=some (a:Int)∧at_.getD k 0=(a:Int):=by
 obtain⟨a,h1,h2⟩:=Z.pl.on k (by rw[←Z.pl.len,Z.len X];exact h)
 exact⟨a,h1,h2,hG h2⟩
theorem Fs(X:Ctx Q L₀)(Z:Sol Q L₀ at_)(H:Rch (fZ Q L₀) at_ o F room)(h:k<Q.n)(hk:o∈ab (fZ Q L₀) k):k∉nJ Q L₀ at_ o F↔Kp (fZ Q L₀) at_ k o:=by
 obtain⟨a,h1,h2,h3⟩:=Cn X Z h
 rw[sF,h3]
 constructor
 ·intro q
  refine⟨a,h2,H.re.mp (kE.mp ?_)⟩
  cases e:inR F (a:Int) with
  |true=>rfl
  |false=>exact absurd ⟨h,hk,e⟩ q
 ·rintro⟨b,h4,h5⟩ ⟨_,_,q⟩
  rw[h2] at h4
  have:a=b:=by have:=Option.some.inj h4;lia
  subst this
  rw[kE.mpr (H.re.mpr h5)] at q;cases q
theorem Cut.nextO(X:Ctx Q L₀)(Z:Sol Q L₀ at_)(H:Rch (fZ Q L₀) at_ o F room)(h:Cut L₀ L λk v=>Bo Q L₀ at_ o k v∧(opt Q v=o→k∉nJ Q L₀ at_ o F)):Cut L₀ L (Bo Q L₀ at_ (o+1)):=
 h.congr λk l₀ hk v hv=>by
  have kl:k<Q.n:=by rw[←X.n];exact(aB.mp hk).1
  have hm:=(pE X.O.toOk X.sub hk).mpr ⟨v,hv,rfl⟩
  unfold Bo
  constructor
  ·rintro⟨h1,h2⟩ lt
   rcases bO.mp lt with lt | rfl
   ·exact h1 lt
   ·exact(Fs X Z H kl hm).mp (h2 rfl)
  ·intro h1
   exact⟨λlt=>h1 (bD lt),λe=>by subst e;exact(Fs X Z H kl hm).mpr (h1 (cV _))⟩
theorem aAl(X:Ctx Q L₀)(Z:Sol Q L₀ at_){l₀ l:List Int}{B:Nat→Int→Prop}(h:Cut L₀ L B)(h0:L₀[k]?=some l₀)(hl:L[k]?=some l)(hB:∀v a,at_[k]?=some ((a:Nat):Int)→opt Q v=a→v∈l₀→B k v):∃u∈l,∃a:Nat,at_[k]?=some (a:Int)∧opt Q u=a:=by
 have kl:k<Q.n:=by rw[←X.n];exact(aB.mp h0).1
 obtain⟨a,h1,h2,_⟩:=Cn X Z kl
 obtain⟨u,hu,e⟩:=(pE X.O.toOk X.sub h0).mp h1
 exact⟨u,(h.mem k l₀ l h0 hl u).mpr ⟨hu,hB u a h2 e hu⟩,a,h2,e⟩
theorem Qf{P:Pg}{a:Nat}:Re P at_ a a:=λT h ξ ξ=>h
end
structure Sml(σ:Sr):Prop where
 trail:σ.trail.length≤1000
 nn:σ.nn≤1000
theorem rY:∀{L:List (List Int)},(∀l∈L,l∈iE)→tot L≤4*L.length
 |[],_=>aO _
 |l::L,h=>by
  have:=rY (L:=L) λm hm=>h m (bA _ hm)
  have:=mZ l (h l aZ)
  exact aE (dH ‹l.length≤4› ‹tot L≤_›) (bH (by rw[cT,Nat.mul_succ,Nat.add_comm]))
theorem Run.lims{Q:Cq}{σ σ':Sr}{L L':List (List Int)}(R:Run Q σ L σ' L')(s:Sml σ)(X:Ctx Q L):σ'.trail.length<lim∧σ'.nn<lim:=by
 have r:=R.size
 have t:=rY X.sub
 have n:=aE (bH X.n) X.O.n.2
 exact⟨aQ (IN r.1 t n s.trail (aO _)) (by decide),aQ (IN r.2 t n s.nn (aO _)) (by decide)⟩
theorem Vt{Q:Cq}{σ σ':Sr}{L L':List (List Int)}(R:Run Q σ L σ' L')(D:Dom σ L)(s:Sml σ)(X:Ctx Q L){k:Nat}{l:List Int}{v:Int}{ls:List Lit}(hk:L'[k]?=some l)(hl:ls.length<lim):Fy σ' (k+1) (((k+1:Nat):Int),3,v) (some ls) (mkD l):=
 ⟨rfl,(R.dom D).at hk,oO ((R.dom D).mem hk),(by decide:3<4),hl,(R.lims s X).1,(R.lims s X).2⟩
structure Far(w:W)(sc:Sc)(Q:Cq)(c:Cc):Prop where
 cd:sW w Q c
 nq:¬sc.In c.q
 nW:¬sc.In c.W
 nL:¬sc.In c.L
 nH:¬sc.In c.H
section
variable{w w':W}{sc sc':Sc}{σ σ':Sr}{Q:Cq}{c:Cc}{at_ cs:List Int}{P:Pg}{pc:Plc}
theorem Far.go(h:Far w sc Q c)(a:gU w sc w' σ' sc'):Far w' sc' Q c:=
 ⟨⟨(a.fix h.cd.ns h.nq).1,(a.fix h.cd.ws h.nW).1,(a.fix h.cd.los h.nL).1,(a.fix h.cd.his h.nH).1⟩,(a.fix h.cd.ns h.nq).2,(a.fix h.cd.ws h.nW).2,(a.fix h.cd.los h.nL).2,(a.fix h.cd.his h.nH).2⟩
theorem Far.keep(h:Far w sc Q c)(f:Fm0 w w'):Far w' sc Q c:=⟨h.cd.keep f,h.nq,h.nW,h.nL,h.nH⟩
structure Pr(w:W)(sc:Sc)(P:Pg)(pc:Plc)(at_ cs:List Int):Prop where
 pl:iQ w P pc at_ cs
 p:¬sc.In pc.p
 A:¬sc.In pc.A
 L:¬sc.In pc.L
 H:¬sc.In pc.H
 T:¬sc.In pc.T
 N:¬sc.In pc.N
 row:∀(k r:Nat),k<P.able.length→pc.rs[k]?=some r→¬sc.In r
theorem Pr.go(h:Pr w sc P pc at_ cs)(a:gU w sc w' σ' sc'):Pr w' sc' P pc at_ cs:=
 have g {n:Nat} {d:hW} (k:At w n d) (q:¬sc.In n):=(a.fix k q).2
 ⟨⟨(a.fix h.pl.ns h.p).1,(a.fix h.pl.able h.A).1,λk hk=>(h.pl.row k hk).imp λr z=>⟨z.1,z.2.1,(a.fix z.2.2 (h.row k r hk z.1)).1⟩,(a.fix h.pl.lows h.L).1,(a.fix h.pl.highs h.H).1,(a.fix h.pl.at_ h.T).1,(a.fix h.pl.counts h.N).1,h.pl.tn,h.pl.am,h.pl.lm,h.pl.hm⟩,
  g h.pl.ns h.p,g h.pl.able h.A,g h.pl.lows h.L,g h.pl.highs h.H,g h.pl.at_ h.T,g h.pl.counts h.N,λk r hk hr=>(h.pl.row k hk).elim λr2 z=>by
   have:r2=r:=by have:=z.1;rw[hr] at this;exact(Option.some.inj this).symm
   subst this;exact g z.2.2 (h.row k r2 hk hr)⟩
end
noncomputable def Vh:Fn:=⟨4,13,none,gD⟩
noncomputable def Uf(Q:Cq)(L:List (List Int))(at_:List Int)(F:List Nat)(room:Bool):List Lit:=Bool.rec (oB L at_ F) (rE Q at_ (kQ Q F)) room
section
variable{G:List Int}{C:Cl}{w:W}{Q:Cq}{c:Cc}{σ:Sr}{sc:Sc}{L₀ L:List (List Int)}{P:Pg}{pc:Plc}{at_ cs:List Int}{o nF nA:Nat}{F:List Nat}{room:Bool}
theorem XM(h1:xD C)(h2:xE C)(O:Q.Ok)(S:sW w Q c)(T:iP w σ sc)(D:Dom σ L)(hL:L.length=Q.n)(Z:iQ w P pc at_ cs)(ha:at_.length=Q.n)(hF:At w nF (.list (F.map nv)))(fl:F.length≤4)(d7 d8 d9 d10 d11 d12:V) :
  GoS (stW G C (gH 3 gD)) [.obj 2 c.q,.obj 0 sc.s,.obj 1 pc.p,nv o,.ref nF,.bool room,.ref nA,d7,d8,d9,d10,d11,d12] w
   (λρ w'=>∃d7 m,ρ=[.obj 2 c.q,.obj 0 sc.s,.obj 1 pc.p,nv o,.ref nF,.bool room,.ref nA,d7,.ref m,d9,d10,d11,d12]∧Fm0 w w'∧w.next≤m∧At w' m (.list ((Uf Q L at_ F room).map iG))):=λK2 k=>by
 cases room with
 |false=>exact ok (gG S.ns (by decide)) (h2 Q c σ sc L P pc at_ cs F nF w _ O S T D hL Z ha hF fl λw' m f hm q=>k _ _ ⟨_,_,rfl,f,hm,q⟩)
 |true =>
  have few:=O.few
  have el:((Q.ws.map V.int).length:Nat)=Q.ws.length:=aA ..
  have l3:lim=100000:=rfl
  have sl:(kQ Q F).length≤Q.ws.length:=by
   have:=bZ (λo=>!decide (o∈F)&&decide (0<Q.los.getD o 0)) (aX Q.ws.length)
   rwa [aP] at this
  refine ok (fld S.ns (by decide) rfl rfl) (ok (gJ S.ws) (bT (by rw[el];exact lY (by lia)) ?_))
  refine gM (aX Q.ws.length) nv (show Giv _ (lP 0 (Q.ws.map V.int).length) _ by rw[el];exact Giv.nat _ _) (λo=>!decide (o∈F)&&decide (0<Q.los.getD o 0)) nv (λi=>[nv i]) (λξ ξ=>rfl) (by rw[aP];show 0+Q.ws.length≤lim;lia) (λi hi w' f T' F' t f'=>?_) λw' f=>?_
  ·have hi:=cK.mp hi
   have S1:=S.keep f
   have e1:Q.los[i]?=some (Q.los.getD i 0):=by rw[aL,aC (by rw[←O.l1];exact hi)];rfl
   refine ok (Gb (f.at hF)) (nB (λno=>ok (fld S1.ns (by decide) rfl rfl) (ok (fY S1.los (by rw[aK,e1];rfl)) (dB (λq=>t _ .refl ?_) λq=>f' _ .refl ?_))) λyes=>f' _ .refl ?_)
   ·rw[decide_eq_false no,decide_eq_true q];rfl
   ·rw[decide_eq_false q,Bool.and_false]
   ·rw[decide_eq_true yes];rfl
  ·have fa:=f.add (.list ((kQ Q F).map nv))
   exact ok (gG (S.keep fa).ns (by decide)) (h1 Q c P pc at_ cs (kQ Q F) _ _ _ O (S.keep fa) (Z.keep fa) ha (At.new _ _) (by exact aE sl (Nat.le.step few)) (λp hp=>((Bn (L₀:=L) O).mp hp).1) λw2 m f2 hm q=>k _ _ ⟨_,_,rfl,fa.trans f2,aE fa.next hm,q⟩)
end
noncomputable def XN:Bk:=qW (gH 4 gD)
structure Sp where
 c:Cc
 pc:Plc
 s:Nat
 o:Nat
 nF:Nat
 room:Bool
 nA:Nat
 d7:V
 nR:Nat
noncomputable abbrev spV(p:Sp)(d9 d10 d11 d12:V):List V:=[.obj 2 p.c.q,.obj 0 p.s,.obj 1 p.pc.p,nv p.o,.ref p.nF,.bool p.room,.ref p.nA,p.d7,.ref p.nR,d9,d10,d11,d12]
structure Bs(Q:Cq)(L₀:List (List Int))(σ₀:Sr)(w₀:W)(sc₀:Sc)(p:Sp)(ls:List Lit):Prop where
 X:Ctx Q L₀
 D:Dom σ₀ L₀
 sml:Sml σ₀
 s:sc₀.s=p.s
 far:Far w₀ sc₀ Q p.c
 rs:At w₀ p.nR (.list (ls.map iG))
 rn:¬sc₀.In p.nR
 ll:ls.length<lim
inductive SvI(Q:Cq)(L₀:List (List Int))(σ₀:Sr)(w₀:W)(sc₀:Sc)(p:Sp)(k nV:Nat)(vs:List Int)(B:Nat→Int→Prop)(i:Nat):List V→W→Prop
 |mk (d11 d12:V) (σ':Sr) (sc':Sc) (L':List (List Int)) (w':W):gU w₀ sc₀ w' σ' sc'→Run Q σ₀ L₀ σ' L'→Cut L₀ L' (λj x=>B j x∧¬(j=k∧x∈vs.take i))→At w' nV (.list (vs.map .int))→¬sc'.In nV→SvI Q L₀ σ₀ w₀ sc₀ p k nV vs B i (spV p (nv k) (nv (k+1)) d11 d12) w'
structure Vs(Q:Cq)(L₀:List (List Int))(k:Nat)(vs:List Int)(B:Nat→Int→Prop)(ls:List Lit)(l₀:List Int):Prop where
 at_:L₀[k]?=some l₀
 nodup:vs.Nodup
 mem:∀v∈vs,v∈l₀∧B k v
 ne:∃u∈l₀,B k u∧u∉vs
 just:∀Lc B',Cut L₀ Lc B'→(∀j x,B' j x→B j x)→∀v∈vs,Ds Q Lc k v ls
theorem Tq{C:Cl}{F:Fn}{k a b:Nat}{vs:List V}{w:W}{K:Kv}(e:a=b)(h:C F (.obj k a::vs) w K):C F (.obj k b::vs) w K:=e▸h
section
variable{G:List Int}{C:Cl}{w:W}{Q:Cq}{L₀:List (List Int)}{σ₀:Sr}{w₀:W}{sc₀:Sc}{p:Sp}{ls:List Lit}{k nV i:Nat}{vs:List Int}{B:Nat→Int→Prop}{l₀:List Int}{v:Int}
theorem MC(h:vs.Nodup)(hi:vs[i]?=some v):v∉vs.take i:=qD h hi
theorem Oq{L':List (List Int)}(h:Cut L₀ L' λj x=>B j x∧¬(j=k∧x∈vs.take i))(hi:vs[i]?=some v){l:List Int}(hk:L'[k]?=some l):Cut L₀ (L'.set k (l.filter (hX 3 v))) λj x=>B j x∧¬(j=k∧x∈vs.take (i+1)):=
 (h.strike hk).congr λj m ξ x ξ=>by
  rw[gS hi,bQ,aG]
  exact⟨λz=>⟨z.1.1,λy=>y.2.elim (λq=>z.1.2 ⟨y.1,q⟩) λq=>z.2 ⟨y.1,q⟩⟩,λz=>⟨⟨z.1,λy=>z.2 ⟨y.1,.inl y.2⟩⟩,λy=>z.2 ⟨y.1,.inr y.2⟩⟩⟩
theorem Sx(h1:rW C)(b:Bs Q L₀ σ₀ w₀ sc₀ p ls)(q:Vs Q L₀ k vs B ls l₀){ρ:List V}(h:SvI Q L₀ σ₀ w₀ sc₀ p k nV vs B 0 ρ w)(K2:List V→Out→W→Prop)(kk:∀ρ w,SvI Q L₀ σ₀ w₀ sc₀ p k nV vs B vs.length ρ w→K2 ρ .go w) :
  ∃n,yE (lI (.var 11)) (BL G C (.var 11)) (bkW G C (qW (gH 2 XN))) n (.cell nV 0) ρ w K2:=by
 refine iD (Giv.cell (J:=λw'=>At w' nV (.list (vs.map .int))) λw' f=>f) (SvI Q L₀ σ₀ w₀ sc₀ p k nV vs B) (λξ ξ ξ h=>h.casesOn λξ ξ ξ ξ ξ ξ ξ ξ ξ h ξ=>h) h kk λi v hi ρ w' h R hR=>h.casesOn λd11 d12 σ' sc' L' w' T Rn Ct hV nV_=>?_
 have kl:k<L₀.length:=(aB.mp q.at_).1
 obtain⟨l,el⟩:∃l,L'[k]?=some l:=⟨_,oM (by rw[Ct.len];exact kl)⟩
 have hv:=aF hi
 obtain⟨v1,v2⟩:=q.mem v hv
 have vl:v∈l:=(Ct.mem k l₀ l q.at_ el v).mpr ⟨v1,v2,λz=>MC q.nodup hi z.2⟩
 obtain⟨u,u1,u2,u3⟩:=q.ne
 have ul:u∈l:=(Ct.mem k l₀ l q.at_ el u).mpr ⟨u1,u2,λz=>u3 (dY z.2)⟩
 have hne:l.filter (hX 3 v)≠[]:=List.ne_nil_of_mem (bX.mpr ⟨ul,zT.mpr λz=>u3 (z▸hv)⟩)
 have J:=q.just L' _ Ct (λj x z=>z.1) v hv
 obtain⟨e1,e2⟩:=SH (ls:=ls) (Rn.dom b.D) el vl hne
 have es:sc'.s=p.s:=T.same.trans b.s
 refine ok (gG (es▸T.at_.ns) (by decide)) (Tq es (h1 sc' σ' (k+1) (((k+1:Nat):Int),3,v) ls (mkD l) p.nR w' _ (Vt Rn b.D b.sml b.X el b.ll) T.at_ (T.fix b.rs b.rn).1 λw2 sc2 a=>nB (λno=>absurd e2 no) λξ=>hR _ _ ?_))
 rw[e1] at a
 exact .mk _ _ _ _ _ _ (T.trans a) (.snoc _ _ k l v ls Rn el vl hne J b.ll) (Oq Ct hi el) (a.fix hV nV_).1 (a.fix hV nV_).2
end
inductive SwI(Q:Cq)(L₀:List (List Int))(at_:List Int)(σ₀:Sr)(w₀:W)(sc₀:Sc)(p:Sp)(ap:List Nat)(j:Nat):List V→W→Prop
 |mk (d9 d10 d11 d12:V) (σ':Sr) (sc':Sc) (L':List (List Int)) (w':W):gU w₀ sc₀ w' σ' sc'→Run Q σ₀ L₀ σ' L'→Cut L₀ L' (λk v=>Bo Q L₀ at_ p.o k v∧(opt Q v=p.o→k∉ap.take j))→At w' p.nA (.list (ap.map nv))→¬sc'.In p.nA→SwI Q L₀ at_ σ₀ w₀ sc₀ p ap j (spV p d9 d10 d11 d12) w'
section
variable{G:List Int}{C:Cl}{w:W}{Q:Cq}{L₀ L':List (List Int)}{at_:List Int}{σ₀:Sr}{w₀:W}{sc₀:Sc}{p:Sp}{ls:List Lit}{k o j:Nat}{vs:List Int}{B:Nat→Int→Prop}{l₀ l:List Int}{v:Int}{ap F:List Nat}{room:Bool}
theorem Ss(X:Ctx Q L₀)(Z:Sol Q L₀ at_)(H:Rch (fZ Q L₀) at_ o F room)(ha:ap=nJ Q L₀ at_ o F)(hj:ap[j]?=some k)(h0:L₀[k]?=some l₀)(nd:vs.Nodup)(PV:∀v,v∈vs↔v∈l₀∧opt Q v=o)(HJ:∀Lc B',Cut L₀ Lc B'→(∀j x,B' j x→Bo Q L₀ at_ o j x)→∀v,opt Q v=o→Ds Q Lc k v ls):Vs Q L₀ k vs (λk v=>Bo Q L₀ at_ o k v∧(opt Q v=o→k∉ap.take j)) ls l₀:=by
 have hk:=aF hj
 rw[ha] at hk
 obtain⟨k1,k2,k3⟩:=sF.mp hk
 have ndA:ap.Nodup:=by rw[ha];exact List.Pairwise.filter _ List.nodup_range
 refine⟨h0,nd,λv hv=>⟨((PV v).mp hv).1,λlt=>absurd lt (by rw[((PV v).mp hv).2];exact dR _),λξ=>qD ndA hj⟩,?_,λLc B' hc hb v hv=>HJ Lc B' hc (λj x z=>(hb j x z).1) v ((PV v).mp hv).2⟩
 obtain⟨a,a1,a2,a3⟩:=Cn X Z k1
 obtain⟨u,hu,e⟩:=(pE X.O.toOk X.sub h0).mp a1
 have ne:opt Q u≠o:=by
  rw[e];rintro rfl
  rw[a3,kE.mpr H.base] at k3;cases k3
 exact⟨u,hu,⟨λξ=>⟨a,a2,by rw[e];exact Qf⟩,λz=>absurd z ne⟩,λz=>ne ((PV u).mp z).2⟩
theorem Fd(hj:ap[j]?=some k)(h0:L₀[k]?=some l₀)(PV:∀v,v∈vs↔v∈l₀∧opt Q v=o)(h:Cut L₀ L' λi x=>(Bo Q L₀ at_ o i x∧(opt Q x=o→i∉ap.take j))∧¬(i=k∧x∈vs.take vs.length)):Cut L₀ L' λi x=>Bo Q L₀ at_ o i x∧(opt Q x=o→i∉ap.take (j+1)):=
 h.congr λi m hi x hx=>by
  rw[gS hj,bQ,aG,bM]
  constructor
  ·rintro⟨⟨h1,h2⟩,h3⟩
   exact⟨h1,λe z=>z.elim (h2 e) λz=>h3 ⟨z,by subst z;rw[h0] at hi;exact(PV x).mpr ⟨Option.some.inj hi▸hx,e⟩⟩⟩
  ·rintro⟨h1,h2⟩
   exact⟨⟨h1,λe z=>h2 e (.inl z)⟩,λz=>h2 ((PV x).mp z.2).2 (.inr z.1)⟩
theorem VA(X:Ctx Q L₀)(h0:L₀[k]?=some l₀)(ho:o<Q.ws.length)(hk:o∈ab (fZ Q L₀) k):∀v,v∈[Q.ws.getD o 0]↔v∈l₀∧opt Q v=o:=λv=>by
 rw[aG]
 obtain⟨u,hu,e⟩:=(pE X.O.toOk X.sub h0).mp hk
 constructor
 ·rintro rfl
  refine⟨?_,wC X.O.toOk ho⟩
  have:=qV (Q:=Q) (v:=u) (by rw[e];exact ho)
  rw[e] at this
  rw[this];exact hu
 ·rintro⟨_,rfl⟩;exact(qV ho).symm
theorem Qy(h0:L₀[k]?=some l₀)(hl:L'[k]?=some l)(ho:¬o<Q.ws.length)(ho2:o<Q.ws.length+1)(h:Cut L₀ L' B)(hB:∀v,opt Q v=o→B k v):∀v,v∈l.filter (λv=>!decide (v∈Q.ws))↔v∈l₀∧opt Q v=o:=λv=>by
 rw[bX,dU,decide_eq_false_iff_not,h.mem k l₀ l h0 hl v,←wD]
 have:=Cx (Q:=Q) (v:=v)
 constructor
 ·rintro⟨⟨h1,_⟩,h2⟩;exact⟨h1,(eV this (dM.mp h2)).trans (eV (eG ho2) (dM.mp ho)).symm⟩
 ·rintro⟨h1,h2⟩;exact⟨⟨h1,hB v h2⟩,by simp +arith [*]⟩
theorem US(h1:rW C)(h2:xX C)(h3:vQ C)(b:Bs Q L₀ σ₀ w₀ sc₀ p ls)(Z:Sol Q L₀ at_)(H:Rch (fZ Q L₀) at_ p.o F room)(ho:p.o<Q.ws.length+1)(hA0:At w₀ p.nA (.list (ap.map nv)))(nA0:¬sc₀.In p.nA)(ha:ap=nJ Q L₀ at_ p.o F)(HJ:∀Lc B',Cut L₀ Lc B'→(∀j x,B' j x→Bo Q L₀ at_ p.o j x)→∀k v,k∈ap→opt Q v=p.o→Ds Q Lc k v ls){ρ:List V}(h:SwI Q L₀ at_ σ₀ w₀ sc₀ p ap 0 ρ w):GoS (stW G C (gH 4 gD)) ρ w (SwI Q L₀ at_ σ₀ w₀ sc₀ p ap ap.length):=λK2 kk=>by
 have O:=b.X.O.toOk
 have l3:lim=100000:=rfl
 refine h.casesOn (motive:=λρ w ξ=>SwI Q L₀ at_ σ₀ w₀ sc₀ p ap 0 ρ w→stW G C (gH 4 gD) ρ w K2) (λd9 d10 d11 d12 σ' sc' L' w' T Rn Ct hA nA h=>?_) h
 refine ok (fV hA) (iD (Giv.cell (J:=λw'=>At w' p.nA (.list (ap.map nv))) λw' f=>f) (SwI Q L₀ at_ σ₀ w₀ sc₀ p ap) (λξ ξ ξ h=>h.casesOn λξ ξ ξ ξ ξ ξ ξ ξ ξ ξ ξ h ξ=>h) h kk λj k hj ρ w' h R hR=>h.casesOn λd9 d10 d11 d12 σ' sc' L' w' T Rn Ct hA nA=>?_)
 have hm:=aF hj
 obtain⟨k1,k2,k3⟩:=sF.mp (ha▸hm)
 obtain⟨l₀,h0⟩:∃l,L₀[k]?=some l:=⟨_,oM (by rw[b.X.n];exact k1)⟩
 obtain⟨l,hl⟩:∃l,L'[k]?=some l:=⟨_,oM (by rw[Ct.len,b.X.n];exact k1)⟩
 have Fa:=b.far.go T
 have es:sc'.s=p.s:=T.same.trans b.s
 have Dm_:=Rn.dom b.D
 have ndA:ap.Nodup:=by rw[ha];exact List.Pairwise.filter _ List.nodup_range
 have hls:=Dm_.mem hl
 refine ok (fld Fa.cd.ns (by decide) rfl rfl) (ok (EB k1) (ok (gG (es▸T.at_.ns) (by decide)) (Tq es (h2 sc' σ' (k+1) _ (Dm_.at hl) w' _ T.at_ λw2 f2=>h3 _ (oO hls) w2 _ λw3 n3 f3 hn3 q3=>ok (fV q3) ?_))))
 rw[uF l hls] at q3
 have F3:=Fa.keep (f2.trans f3)
 have ll4:=mZ l hls
 refine gM l .int (Giv.cell λw' f=>f.at q3) (λv=>!decide (v∈Q.ws)) .int (λv=>[.int v]) (λξ ξ=>rfl) (by show 0+l.length≤lim;lia) (λv hv w4 f4 T' F' t f'=>?_) λw4 f4=>?_
 ·have F4:=F3.keep f4
  exact ok (fld F4.cd.ns (by decide) rfl rfl) (ok (nS F4.cd.ws) (nB (λq=>t _ .refl (by rw[decide_eq_false q];rfl)) λq=>f' _ .refl (by rw[decide_eq_true q];rfl)))
 ·have fa:=(f2.trans f3).trans (f4.add (.list ((l.filter λv=>!decide (v∈Q.ws)).map .int)))
  have F5:=Fa.keep fa
  have T5:=T.post fa
  have el:((Q.ws.map V.int).length:Nat)=Q.ws.length:=aA ..
  have lw:∀{n:Nat} {w5:W},Fm0 w' w5→w5.next≤n→¬sc'.In n:=λ{n w5} f hn z=>by
   have:∀{d},At w' n d→False:=λh=>by have:=h.lt;have:=f.next;lia
   rcases z with rfl | rfl | rfl | rfl | rfl | rfl
   ·exact this T.at_.ns
   ·exact this T.at_.doms
   ·exact this T.at_.firsts
   ·exact this T.at_.trail
   ·exact this T.at_.marks
   ·exact T.at_.news.elim λkvs z=>this z.1
  refine ok (fld F5.cd.ns (by decide) rfl rfl) (ok (gJ F5.cd.ws) ?_)
  rw[el]
  have HJ2:=λLc B' h1 h2 v=>HJ Lc B' h1 h2 k v hm
  refine dB (λlt=>?_) λge=>?_
  ·have lt:p.o<Q.ws.length:=cH.mp lt
   have ev:=BU lt
   have PV:=VA b.X h0 lt k2
   refine ok (fld F5.cd.ns (by decide) rfl rfl) (ok (fY F5.cd.ws (by rw[aK,ev];rfl)) (ok (fV (At.new _ _)) ?_))
   refine Sx (w:=(W.add _ (.list ([Q.ws.getD p.o 0].map .int)))) h1 b (Ss b.X Z H ha hj h0 (by simp) PV HJ2) (.mk _ _ σ' sc' L' _ (T5.post (Fm.refl.add _)) Rn (Ct.congr λi m ξ x ξ=>⟨λz=>⟨z,λy=>nomatch y.2⟩,λz=>z.1⟩) (At.new _ _) (lw fa (aO _))) _ λρ w6 h=>?_
   refine h.casesOn λd11 d12 σ2 sc2 L2 w7 T7 R7 C7 hV nV=>hR _ _ (.mk _ _ _ _ σ2 sc2 L2 _ T7 R7 (Fd hj h0 PV C7) (T7.fix hA0 nA0).1 (T7.fix hA0 nA0).2)
  ·have ge:¬p.o<Q.ws.length:=λz=>ge (cH.mpr z)
   have PV:=Qy h0 hl ge ho Ct λv e=>⟨λlt=>absurd lt (by rw[e];exact dR _),λξ=>qD ndA hj⟩
   refine ok (fV (At.new _ _)) ?_
   refine Sx h1 b (Ss b.X Z H ha hj h0 ((Ba l hls).filter _) PV HJ2) (.mk _ _ σ' sc' L' _ T5 Rn (Ct.congr λi m ξ x ξ=>⟨λz=>⟨z,λy=>nomatch y.2⟩,λz=>z.1⟩) (At.new _ _) (lw (f2.trans (f3.trans f4)) (aO _))) _ λρ w6 h=>?_
   refine h.casesOn λd11 d12 σ2 sc2 L2 w7 T7 R7 C7 hV nV=>hR _ _ (.mk _ _ _ _ σ2 sc2 L2 _ T7 R7 (Fd hj h0 PV C7) (T7.fix hA0 nA0).1 (T7.fix hA0 nA0).2)
theorem IR{n:Nat}{l:List Nat}(h:At w n (.list (l.map nv))):rd w 8 (.ref n)=some (.list (l.map λo=>PyData.int (o:Nat))):=oQ (k:=7) l h λo ξ=>lZ _
theorem aA9(x y:Nat):PyData.eqv (.int (x:Nat)) (.int (y:Nat))=decide (x=y):=by rw[kT];exact decide_eq_decide.mpr dS
theorem DW{m n:Nat}{a b:List Nat}(h1:At w m (.list (a.map nv)))(h2:At w n (.list (b.map nv))):jK .Eq w (.ref m) (.ref n)=some (decide (a=b)):=rN (IR h1) (IR h2) (kA aA9 a b)
end
noncomputable def Dk(C:Cl):Prop:=∀Q c pc at_ L₀ σ₀ σ sc L o w K,Ctx Q L₀→Dom σ₀ L₀→Sml σ₀→Sol Q L₀ at_→Far w sc Q c→iQ w (fZ Q L₀) pc at_ (ctL at_ (fZ Q L₀).lows.length)→iP w σ sc→Run Q σ₀ L₀ σ L→Cut L₀ L (Bo Q L₀ at_ o)→o<Q.ws.length+1 →
 (∀w' σ' sc' L',gU w sc w' σ' sc'→Run Q σ₀ L₀ σ' L'→Cut L₀ L' (Bo Q L₀ at_ (o+1))→K (.bool true) w')→C Vh [.obj 2 c.q,.obj 0 sc.s,.obj 1 pc.p,nv o] w K
theorem iP.new{w:W}{σ:Sr}{sc:Sc}(T:iP w σ sc){n:Nat}(hn:w.next≤n):¬sc.In n:=λz=>by
 have:∀{d},At w n d→False:=λh=>eF.mpr h.lt hn
 rcases z with rfl | rfl | rfl | rfl | rfl | rfl
 ·exact this T.ns
 ·exact this T.doms
 ·exact this T.firsts
 ·exact this T.trail
 ·exact this T.marks
 ·exact T.news.elim λkvs z=>this z.1
section
variable{G:List Int}{C:Cl}{w:W}{K:Kv}
theorem Ue{Q:Cq}{σ:Sr}{L:List (List Int)}{at_:List Int}{F:List Nat}{room:Bool}(D:Dom σ L)(O:Q.Ok)(h:at_.length≤4)(hF:F.length≤4):(Uf Q L at_ F room).length<lim:=by
 have l3:lim=100000:=rfl
 cases room with
 |false =>
  have:=wQ D h hF F.length
  rw[bM] at this
  show(oB L at_ F).length<lim
  lia
 |true =>
  have few:=O.few
  have sl:(kQ Q F).length≤4:=by
   have:=bZ (λo=>!decide (o∈F)&&decide (0<Q.los.getD o 0)) (aX Q.ws.length)
   rw[aP] at this
   unfold kQ;exact aE this (Nat.le.step few)
  have:=AP (Q:=Q) (at_:=at_) sl O.n.2 Q.n
  rw[eC (by rw[aP];exact aO _)] at this
  show(rE Q at_ (kQ Q F)).length<lim
  unfold rE
  omega
theorem Ni{L₀ L L':List (List Int)}{B B':Nat→Int→Prop}(h:Cut L₀ L B)(h':Cut L₀ L' B')(q:∀j x,B' j x→B j x):Aw L' L:=⟨h'.len.trans h.len.symm,λk l' l h1 h2 v hv=>by
 obtain⟨l₀,h0⟩:∃l,L₀[k]?=some l:=⟨_,oM (by rw[←h.len];exact(aB.mp h2).1)⟩
 obtain⟨a,b⟩:=(h'.mem k l₀ l' h0 h1 v).mp hv
 exact(h.mem k l₀ l h0 h2 v).mpr ⟨a,q k v b⟩⟩
theorem Uj(h1:xB C)(h2:xD C)(h3:xE C)(h4:rW C)(h5:xX C)(h6:vQ C):Dk (gR G C):=λQ c pc at_ L₀ σ₀ σ sc L o w K X D s Z Fa P T R Ct ho kk=>by
 have O:=X.O.toOk
 have PO:=Bi O X.n X.sub
 have al:=Z.len X
 have n4:=O.n
 have few:=O.few
 have l3:lim=100000:=rfl
 have et:(tk Q.n).length=Q.n:=by unfold tk;rw[aA,aP]
 refine⟨rfl,ok (gG P.ns (by decide)) (h1 _ pc at_ o w _ PO P (by rw[Z.pl.len]) (by rw[jT O];exact ho) λw1 nF F room f1 hF q1 H=>?_)⟩
 have S1:=Fa.cd.keep f1
 refine ok (fld S1.ns (by decide) rfl rfl) (bT (by rw[et];exact lY (by lia)) ?_)
 refine gM (aX Q.n) nv (show Giv _ (lP 0 (tk Q.n).length) _ by rw[et];exact Giv.nat _ _) (λk=>decide (o∈ab (fZ Q L₀) k)&&!inR F (at_.getD k 0)) nv (λi=>[nv i]) (λξ ξ=>rfl) (by rw[aP];show 0+Q.n≤lim;lia) (λi hi w2 f2 T' F' t f'=>?_) λw2 f2=>?_
 ·have hi:=cK.mp hi
  have P2:=P.keep (f1.trans f2)
  have ea:at_[i]?=some (at_.getD i 0):=by rw[aL,aC (by simp +arith [*])];rfl
  refine ok (fld P2.ns (by decide) rfl rfl) ((P2.rowI (k:=i) (by show i<(L₀.map _).length;rw[aA,X.n];exact hi)).casesOn λr e1 ξ hrow=>ok (P2.rowV e1) (ok (DO hrow) (dB (λyes=>ok (fld P2.ns (by decide) rfl rfl) (ok (fY P2.at_ (by rw[aK,ea];rfl)) (ok (nS ((f2.at q1).cast (nvs F))) (nB (λno=>t _ .refl ?_) λyes2=>f' _ .refl ?_)))) λno=>f' _ .refl ?_)))
  ·rw[decide_eq_true yes,show inR F (at_.getD i 0)=false from decide_eq_false no];rfl
  ·rw[show inR F (at_.getD i 0)=true from decide_eq_true yes2,Bool.not_true,Bool.and_false]
  ·rw[decide_eq_false no];rfl
 ·have fa:=f1.trans (f2.add (.list ((nJ Q L₀ at_ o F).map nv)))
  have fl:F.length≤4:=by have:=jH H.nodup H.lt;rw[jT O] at this;exact aE this (fK few)
  have a1:At (w2.add (.list ((nJ Q L₀ at_ o F).map nv))) w2.next (.list ((nJ Q L₀ at_ o F).map nv)):=At.new _ _
  refine ok (DW (b:=[]) (a1.add _) (At.new _ _)) (dB (λe=>kk _ σ sc L ((gU.refl (T.keep0 (fa.add _))).pre (fa.add _)) R ?_) λne=>?_)
  ·exact Cut.nextO X Z H (Ct.congr λk m ξ v ξ=>⟨λz=>⟨z,λξ q=>by rw[e] at q;cases q⟩,λz=>z.1⟩)
  ·have fb:=fa.add (.list (([]:List Nat).map nv))
   have Sb:=Fa.keep fb
   have Tb:=T.keep0 fb
   have Dm_:=R.dom D
   have hL:L.length=Q.n:=Ct.len.trans X.n
   refine XM h2 h3 O Sb.cd Tb Dm_ hL (P.keep fb) al ((((f2.add _).add _).at q1)) fl _ _ _ _ _ _ _ λρ w3 zz=>?_
   obtain⟨d7,m,hρ,f3,hm,q3⟩:=zz
   subst hρ
   have T3:=Tb.keep0 f3
   have b:Bs Q L₀ σ₀ w3 sc ⟨c,pc,sc.s,o,nF,room,w2.next,d7,m⟩ (Uf Q L at_ F room):=⟨X,D,s,rfl,Sb.keep f3,q3,Tb.new hm,Ue Dm_ O (by simp +arith [*]) fl⟩
   refine US h4 h5 h6 b Z H ho (f3.at (a1.add _)) (T.new (aE f1.next f2.next)) rfl (λLc B' h1 h2 k v hk hv=>?_) (.mk _ _ _ _ σ sc L w3 (gU.refl T3) R (Ct.congr λk m ξ v ξ=>⟨λz=>⟨z,λξ q=>nomatch q⟩,λz=>z.1⟩) (f3.at (a1.add _)) (T.new (aE f1.next f2.next))) _ λρ w4 h=>?_
   ·obtain⟨k1,k2,k3⟩:=sF.mp hk
    have ea:at_[k]?=some (at_.getD k 0):=by rw[aL,aC (by simp +arith [*])];rfl
    cases room with
    |true=>exact Kl X Z H h1.less ea k3 (by rw[hv];exact H.base)
    |false=>exact Km X Z H Dm_.sub Dm_.ne Ct.less (Ni Ct h1 h2) ea k3 (by rw[hv];exact H.base)
   ·exact h.casesOn λd9 d10 d11 d12 σ' sc' L' w' T' R' C' ξ ξ=>kk _ σ' sc' L' (T'.pre (fb.trans f3)) R' (Cut.nextO X Z H (C'.congr λk m ξ v ξ=>by rw[bM]))
end
noncomputable abbrev GoR(s:SS)(ρ:List V)(w:W)(Q:List V→W→Prop)(E:V→W→Prop):Prop:=∀K2:List V→Out→W→Prop,(∀ρ w,Q ρ w→K2 ρ .go w)→(∀ρ d w,E d w→K2 ρ (.ret d) w)→s ρ w K2
noncomputable def Vm:Fn:=⟨2,9,none,fT⟩
inductive BB(Q:Cq)(L₀:List (List Int))(σ:Sr)(w:W)(sc:Sc):V→W→Prop
 |mk (w':W) (sc':Sc) (ls:List Lit):gU w sc w' {σ with failed:=true,clash:=ls} sc'→ls.length<lim→(∀t∈ls,Hol t L₀)→(∀r,r.length=Q.n→lD Q r→¬∀t∈ls,Say t r)→BB Q L₀ σ w sc (.bool false) w'
structure Rb(Q:Cq)(L₀:List (List Int))(σ:Sr)(w:W)(sc:Sc)(c:Cc):Prop where
 X:Ctx Q L₀
 D:Dom σ L₀
 sml:Sml σ
 far:Far w sc Q c
 at_:iP w σ sc
noncomputable abbrev onV(c:Cc)(s:Nat)(pc:Plc)(nA:Nat)(d2 d5 d6 d7 d8:V):List V:=[.obj 2 c.q,.obj 0 s,d2,.ref nA,.obj 1 pc.p,d5,d6,d7,d8]
theorem DZ{G:List Int}{C:Cl}{w:W}{ir:Bk}{n:Nat}{ρ:List V}{K:List V→Out→W→Prop}{Q:List V→W→Prop}{E:V→W→Prop}(e:iU n ir=.cons (gH n ir) (iU (n+1) ir))(h:GoR (stW G C (gH n ir)) ρ w Q E)(k:∀ρ w,Q ρ w→bkW G C (iU (n+1) ir) ρ w K)(ke:∀ρ d w,E d w→K ρ (.ret d) w):bkW G C (iU n ir) ρ w K:=by
 rw[e];exact h _ k ke
inductive OpI(Q:Cq)(L₀:List (List Int))(w₀:W)(c:Cc)(s:Nat)(pc:Plc)(nA:Nat)(j:Nat):List V→W→Prop
 |mk (d2 d5 d6 d7 d8:V) (at_:List Int) (w:W):Fm0 w₀ w→iQ w (fZ Q L₀) pc at_ (ctL at_ (fZ Q L₀).lows.length)→oH (fZ Q L₀) at_ j→OpI Q L₀ w₀ c s pc nA j (onV c s pc nA d2 d5 d6 d7 d8) w
section
variable{G:List Int}{C:Cl}{w w₀:W}{Q:Cq}{L₀:List (List Int)}{σ:Sr}{sc:Sc}{c:Cc}{pc:Plc}{nA:Nat}
theorem Fm0.tn{w1 w2:W}(f:Fm0 w₀ w1)(g:Fm pc.M w1 w2)(h:w₀.next≤pc.T∧w₀.next≤pc.N):Fm0 w₀ w2:=f.fresh g λn z=>.inr (by rcases z with rfl | rfl;exact h.1;exact h.2)
theorem NB(h1:yX C)(h2:xE C)(h3:xX C)(h4:oF C)(h5:sO C)(b:Rb Q L₀ σ w₀ sc c)(hn:w₀.next≤pc.T∧w₀.next≤pc.N){ρ:List V}(h:OpI Q L₀ w₀ c sc.s pc nA 0 ρ w) :
  GoR (stW G C (gH 3 fT)) ρ w (OpI Q L₀ w₀ c sc.s pc nA Q.n) (BB Q L₀ σ w₀ sc):=λK2 kk ke=>by
 have O:=b.X.O.toOk
 have PO:=Bi O b.X.n b.X.sub
 have n4:=O.n
 have few:=O.few
 have l3:lim=100000:=rfl
 have et:(tk Q.n).length=Q.n:=by unfold tk;rw[aA,aP]
 have al:(fZ Q L₀).able.length=Q.n:=by show(L₀.map _).length=_;rw[aA,b.X.n]
 refine h.casesOn (motive:=λρ w ξ=>OpI Q L₀ w₀ c sc.s pc nA 0 ρ w→stW G C (gH 3 fT) ρ w K2) (λd2 d5 d6 d7 d8 at_ w1 f1 P1 I1 h=>?_) h
 refine ok (fld (b.far.cd.keep f1).ns (by decide) rfl rfl) (bT (by rw[et];exact lY (by lia)) ?_)
 refine nZ (show Giv (λξ=>True) (lP 0 (tk Q.n).length) ((aX Q.n).map nv) by rw[et];exact Giv.nat _ _) (OpI Q L₀ w₀ c sc.s pc nA) (λξ ξ ξ ξ=>trivial) h (λρ w h=>kk ρ w (by rwa [aP] at h)) λj mb hj ρ w' h R hR=>h.casesOn λd2 d5 d6 d7 d8 at_ w1 f1 P1 I1=>?_
 obtain⟨jl,rfl⟩:j<Q.n∧mb=j:=by
  have:=(aB.mp hj).1
  rw[aP] at this
  rw[cI this] at hj
  exact⟨this,(Option.some.inj hj).symm⟩
 refine ok (gG P1.ns (by decide)) (h1 _ pc at_ mb w1 _ PO P1 I1 (by rw[al];exact jl) (λw2 at2 P2 f2 I2=>hR _ _ (.mk _ _ _ _ _ _ _ (f1.tn f2 hn) P2 I2)) λw2 n R' f2 hn2 q2 Z=>?_)
 have f12:=f1.trans f2
 have S2:=b.far.cd.keep f12
 have T2:=b.at_.keep0 f12
 have ha:at_.length=Q.n:=I1.len.trans al
 have rl:R'.length≤4:=by have:=jH Z.nodup Z.lt;rw[jT O] at this;exact aE this (fK few)
 obtain⟨l,el⟩:∃l,L₀[mb]?=some l:=⟨_,oM (by rw[b.X.n];exact jl)⟩
 have a1:=wQ b.D (at_:=at_) (by simp +arith [*]) rl R'.length
 rw[bM] at a1
 have a2:=IG (x:=((mb+1:Nat):Int)) (b.D.mem el)
 have ln:(oB L₀ at_ R'++stK L₀ mb).length<lim:=by rw[aD,stK,show L₀.getD mb []=l from hG el];exact aQ (dH a1 a2) (by decide)
 refine ok (fld S2.ns (by decide) rfl rfl) (ok (EB jl) (ok (gG T2.ns (by decide)) (ok (gG S2.ns (by decide)) (h2 Q c σ sc L₀ _ pc at_ _ R' n w2 _ O S2 T2 b.D b.X.n (P1.keep f2) ha q2 rl λw3 m3 f3 hm3 q3=>ok (gG (T2.keep0 f3).ns (by decide)) (h3 sc σ (mb+1) _ (b.D.at el) w3 _ (T2.keep0 f3) λw4 f4=>h4 _ (oO (b.D.mem el)) (b.D.mkne el) _ w4 _ λw5 m5 f5 hm5 q5=>ok (add_list (f5.at (f4.at q3)) q5 ?_) ?_)))))
 ·rw[aD,aA,aA]
  exact aE (dH a1 a2) (by decide)
 ·have T5:=T2.keep0 ((f3.trans f4).trans f5)
  have e:L₀.getD mb []=l:=hG el
  obtain⟨c1,c2⟩:=EH b.X jl I1 Z
  refine h5 sc σ (oB L₀ at_ R'++stK L₀ mb) _ _ _ (T5.keep0 (Fm.refl.add _)) (AS ((At.new _ _).cast (by rw[aI,stK,e]))) λw7 sc7 a=>ke _ _ _ (.mk _ sc7 _ (a.pre (((f12.trans f3).trans (f4.trans f5)).add _)) ln c1 c2)
end
inductive OfI(Q:Cq)(L₀:List (List Int))(w₀:W)(c:Cc)(s:Nat)(pc:Plc)(nA:Nat)(j:Nat):List V→W→Prop
 |mk (d2 d5 d6 d7 d8:V) (at_:List Int) (w:W):Fm0 w₀ w→iQ w (fZ Q L₀) pc at_ (ctL at_ (fZ Q L₀).lows.length)→oH (fZ Q L₀) at_ (fZ Q L₀).able.length→(∀o,o<j→lo (fZ Q L₀) o≤cn at_ o)→OfI Q L₀ w₀ c s pc nA j (onV c s pc nA d2 d5 d6 d7 d8) w
inductive OgI(Q:Cq)(L₀:List (List Int))(w₀:W)(c:Cc)(s:Nat)(pc:Plc)(nA:Nat)(j:Nat)(at_:List Int):List V→W→Prop
 |mk (d2 d5 d6 d8:V) (w:W):Fm0 w₀ w→iQ w (fZ Q L₀) pc at_ (ctL at_ (fZ Q L₀).lows.length)→oH (fZ Q L₀) at_ (fZ Q L₀).able.length→(∀o,o<j→lo (fZ Q L₀) o≤cn at_ o)→OgI Q L₀ w₀ c s pc nA j at_ (onV c s pc nA d2 d5 d6 (nv j) d8) w
section
variable{G:List Int}{C:Cl}{w w₀:W}{Q:Cq}{L₀:List (List Int)}{σ:Sr}{sc:Sc}{c:Cc}{pc:Plc}{nA:Nat}
theorem Nh(O:Q.Val){o:Nat}(h:o<Q.ws.length):lo (fZ Q L₀) o≤hi (fZ Q L₀) o:=O.le o _ _ (uR O.toOk h) (FT O.toOk h)
theorem Oo(a b:Int):0≤dl a b:=iteInduction (motive:=λx:Int=>0≤x) (λξ=>by decide) λξ=>by decide
theorem KX{at_:List Int}{opts:List Nat}(h:opts.length≤4)(hn:Q.n≤4):(rE Q at_ opts).length<lim:=by
 have l3:lim=100000:=rfl
 have:=AP (Q:=Q) (at_:=at_) h hn Q.n
 rw[eC (by rw[aP];exact aO _)] at this
 exact aQ this (by decide)
theorem SO{a b l:Int}(d:b+0=a+1)(h:a<l):(l-b).toNat<(l-a).toNat:=
 (Int.add_zero b).symm.trans d▸(Int.toNat_lt_toNat (Int.sub_pos_of_lt h)).mpr (Int.sub_lt_sub_left (Int.lt_add_one_of_le (Int.le_refl a)) l)
theorem RJ(h1:Do C)(h2:xD C)(h5:sO C)(b:Rb Q L₀ σ w₀ sc c)(hn:w₀.next≤pc.T∧w₀.next≤pc.N){ρ:List V}(h:OfI Q L₀ w₀ c sc.s pc nA 0 ρ w) :
  GoR (stW G C (gH 4 fT)) ρ w (OfI Q L₀ w₀ c sc.s pc nA Q.ws.length) (BB Q L₀ σ w₀ sc):=λK2 kk ke=>by
 have O:=b.X.O.toOk
 have PO:=Bi O b.X.n b.X.sub
 have n4:=O.n
 have few:=O.few
 have el:((Q.ws.map V.int).length:Nat)=Q.ws.length:=aA ..
 have al:(fZ Q L₀).able.length=Q.n:=by show(L₀.map _).length=_;rw[aA,b.X.n]
 refine h.casesOn (motive:=λρ w ξ=>OfI Q L₀ w₀ c sc.s pc nA 0 ρ w→stW G C (gH 4 fT) ρ w K2) (λd2 d5 d6 d7 d8 at_ w1 f1 P1 I1 lo1 h=>?_) h
 have S1:=b.far.cd.keep f1
 refine ok (fld S1.ns (by decide) rfl rfl) (ok (gJ S1.ws) (bT (by rw[el];exact lY (by lia)) ?_))
 refine nZ (show Giv (λξ=>True) (lP 0 (Q.ws.map V.int).length) ((aX Q.ws.length).map nv) by rw[el];exact Giv.nat _ _) (OfI Q L₀ w₀ c sc.s pc nA) (λξ ξ ξ ξ=>trivial) h (λρ w h=>kk ρ w (by rwa [aP] at h)) λj mb hj ρ w' h R hR=>h.casesOn λd2 d5 d6 d7 d8 at_ w1 f1 P1 I1 lo1=>?_
 obtain⟨jl,rfl⟩:j<Q.ws.length∧mb=j:=by
  have:=(aB.mp hj).1
  rw[aP] at this
  rw[cI this] at hj
  exact⟨this,(Option.some.inj hj).symm⟩
 have jp:mb<(fZ Q L₀).lows.length:=by rw[jT O];exact bD jl
 refine xJ (OgI Q L₀ w₀ c sc.s pc nA mb) (λat_=>(lo (fZ Q L₀) mb-cn at_ mb).toNat) ?_ at_ (.mk _ _ _ _ _ f1 P1 I1 lo1)
 rintro at_ ρ w1 zz
 refine zz.casesOn λd2 d5 d6 d8 w1 f1 P1 I1 lo1 R2 hR2=>?_
 have S1:=b.far.cd.keep f1
 have e1:=uR (L:=L₀) O jl
 refine ok (fld P1.ns (by decide) rfl rfl) (ok (P1.hereN (kF jp)) (ok (fld S1.ns (by decide) rfl rfl) (ok (fY S1.los (by rw[aK,e1];rfl)) (dB (λlt=>?_) λge=>hR _ _ (.mk _ _ _ _ _ at_ _ f1 P1 I1 λo ho=>?_)))))
 ·refine ok (gG P1.ns (by decide)) (h1 _ pc at_ mb w1 _ PO P1 I1 jp (fH lt (Nh b.X.O jl)) (λw2 at2 op P2 f2 I2 M gt ne=>?_) λw2 n R' f2 hn2 q2 Z=>?_)
  ·refine hR2 at2 _ _ (.mk _ _ _ _ _ (f1.tn f2 hn) P2 I2 λo ho=>?_) ?_
   ·have a:=lo1 o ho
    have d:=M.cnt o
    have e:=Oo (mb:Int) o
    by_cases q:op=o
    ·subst q;rw[show dl (op:Int) op=1 from if_pos rfl] at d;exact Im d e gt
    ·rw[show dl (op:Int) o=0 from if_neg λz=>q (dS.mp z)] at d;exact Im d e ((Int.add_zero _).symm▸a)
   ·have d:=M.cnt mb
    rw[show dl (op:Int) mb=0 from if_neg λz=>ne (dS.mp z),show dl (mb:Int) mb=1 from if_pos rfl] at d
    exact SO d lt
  ·have f12:=f1.trans f2
   have S2:=b.far.cd.keep f12
   have T2:=b.at_.keep0 f12
   have rl:R'.length≤4:=by have:=jH Z.nodup Z.lt;rw[jT O] at this;exact aE this (fK few)
   obtain⟨c1,c2⟩:=ER b.X jl I1 lt Z
   exact ok (gG T2.ns (by decide)) (ok (gG S2.ns (by decide)) (h2 Q c _ pc at_ _ R' n w2 _ O S2 (P1.keep f2) (I1.len.trans al) q2 rl (EQ b.X jl Z) λw3 m3 f3 hm3 q3=>h5 sc σ _ _ _ _ (T2.keep0 f3) (AS q3) λw7 sc7 a=>ke _ _ _ (.mk _ sc7 _ (a.pre (f12.trans f3)) (KX rl b.X.O.n.2) c1 c2)))
 ·rcases bO.mp ho with ho | rfl
  ·exact lo1 o ho
  ·exact fG.mp ge
end
inductive OsI(Q:Cq)(L₀:List (List Int))(σ:Sr)(w₀:W)(sc:Sc)(c:Cc)(pc:Plc)(nA:Nat)(at_:List Int)(j:Nat):List V→W→Prop
 |mk (d2 d5 d6 d7 d8:V) (σ':Sr) (sc':Sc) (L':List (List Int)) (w:W):gU w₀ sc w σ' sc'→Run Q σ L₀ σ' L'→Cut L₀ L' (Bo Q L₀ at_ j)→OsI Q L₀ σ w₀ sc c pc nA at_ j (onV c sc.s pc nA d2 d5 d6 d7 d8) w
theorem add_int{w:W}{i j:Int}:Db .Add w (.int i) (.int j)=some (.int (i+j),w):=rfl
section
variable{G:List Int}{C:Cl}{w w₀:W}{Q:Cq}{L₀:List (List Int)}{σ:Sr}{sc:Sc}{c:Cc}{pc:Plc}{nA:Nat}{at_:List Int}
theorem VC(h1:Dk C)(b:Rb Q L₀ σ w₀ sc c)(Z:Sol Q L₀ at_)(P:Pr w₀ sc (fZ Q L₀) pc at_ (ctL at_ (fZ Q L₀).lows.length)){ρ:List V}(h:OsI Q L₀ σ w₀ sc c pc nA at_ 0 ρ w) :
  GoS (stW G C (gH 5 fT)) ρ w (OsI Q L₀ σ w₀ sc c pc nA at_ (Q.ws.length+1)):=λK2 kk=>by
 have O:=b.X.O.toOk
 have few:=O.few
 have el:((Q.ws.map V.int).length:Nat)=Q.ws.length:=aA ..
 refine h.casesOn (motive:=λρ w ξ=>OsI Q L₀ σ w₀ sc c pc nA at_ 0 ρ w→stW G C (gH 5 fT) ρ w K2) (λd2 d5 d6 d7 d8 σ' sc' L' w1 T R Ct h=>?_) h
 have S1:=(b.far.go T).cd
 obtain⟨i,hi⟩:∃i:Int,i=(((Q.ws.map V.int).length:Nat):Int):=⟨_,rfl⟩
 have ln:=gJ S1.ws
 rw[←hi] at ln
 have ei:(i+1).toNat=Q.ws.length+1:=by rw[hi,el];exact rfl
 refine ok (fld S1.ns (by decide) rfl rfl) (ok ln (bT (b:=jC 0 (i+1)) (nQ (by rw[hi,el];lia)) ?_))
 refine iD (show Giv (λξ=>True) (lP 0 (i+1).toNat) ((aX (Q.ws.length+1)).map nv) by rw[ei];exact Giv.nat _ _) (OsI Q L₀ σ w₀ sc c pc nA at_) (λξ ξ ξ ξ=>trivial) h (λρ w h=>kk ρ w (by rwa [aP] at h)) λj mb hj ρ w' h R hR=>h.casesOn λd2 d5 d6 d7 d8 σ' sc' L' w1 T Rn Ct=>?_
 obtain⟨jl,rfl⟩:j<Q.ws.length+1∧mb=j:=by
  have:=(aB.mp hj).1
  rw[aP] at this
  rw[cI this] at hj
  exact⟨this,(Option.some.inj hj).symm⟩
 have Fa:=b.far.go T
 have P1:=P.go T
 have key:=h1 Q c pc at_ L₀ σ σ' sc' L' mb w1
 rw[T.same] at key
 exact ok (gG Fa.cd.ns (by decide)) (key _ b.X b.D b.sml Z Fa P1.pl T.at_ Rn Ct jl λw2 σ2 sc2 L2 a R2 C2=>hR _ _ (.mk _ _ _ _ _ σ2 sc2 L2 _ (T.trans a) R2 C2))
inductive OaI(Q:Cq)(L₀:List (List Int))(w₀:W)(j:Nat)(acc:List V):W→Prop
 |mk (rs:List Nat) (w:W):acc=rs.map .ref→rs.length=j→Fm0 w₀ w→(∀i r,rs[i]?=some r→w₀.next≤r∧At w r (.list ((mB Q (L₀.getD i [])).map nv)))→OaI Q L₀ w₀ j acc w
theorem RK(h1:sM C)(b:Rb Q L₀ σ w₀ sc c)(f:Fm0 w₀ w)(d2 d3 d4 d5 d6 d7 d8:V):GoS (stW G C (gH 1 fT)) [.obj 2 c.q,.obj 0 sc.s,d2,d3,d4,d5,d6,d7,d8] w
  (λρ w'=>∃(n:Nat) (rs:List Nat),ρ=[.obj 2 c.q,.obj 0 sc.s,d2,.ref n,d4,d5,d6,d7,d8]∧At w' n (.list (rs.map .ref))∧w₀.next≤n∧OaI Q L₀ w₀ Q.n (rs.map .ref) w'):=λK2 kk=>by
 have S1:=b.far.cd.keep f
 have l3:lim=100000:=rfl
 have n4:=b.X.O.n
 have et:(tk Q.n).length=Q.n:=by unfold tk;rw[aA,aP]
 refine ok (fld S1.ns (by decide) rfl rfl) ?_
 refine rQ (Giv.tup (λξ=>True) (tk Q.n)) (OaI Q L₀ w₀) (λξ ξ ξ ξ=>trivial) (λj d hd acc w1 h R hR=>h.casesOn λrs w1 ea hl f1 hrs=>?_) (λacc w1 h=>h.casesOn λrs w1 ea hl f1 hrs=>kk _ _ ⟨_,rs,rfl,ea▸At.new _ _,f1.next,.mk rs _ rfl (hl.trans et) (f1.add _) λi r hi=>⟨(hrs i r hi).1,(hrs i r hi).2.add _⟩⟩) (.mk [] w rfl rfl f λi r hi=>nomatch hi)
 obtain⟨k,hk,rfl⟩:=kW (f:=λk=>nv (k+1)) hd
 obtain⟨jl,rfl⟩:j<Q.n∧k=j:=by
  have:=(aB.mp hk).1
  rw[aP] at this
  rw[cI this] at hk
  exact⟨this,(Option.some.inj hk).symm⟩
 obtain⟨l,el⟩:∃l,L₀[k]?=some l:=⟨_,oM (by rw[b.X.n];exact jl)⟩
 refine ok (gG (b.far.cd.keep f1).ns (by decide)) (h1 Q c σ sc L₀ k l w1 _ b.X.O (b.far.cd.keep f1) (b.at_.keep0 f1) b.D el λw2 n f2 hn q2=>⟨?_,hR _ _ (.mk (rs++[n]) w2 ?_ ?_ (f1.trans f2) λi r hi=>?_)⟩)
 ·rw[ea,aA,hl];lia
 ·rw[ea,aI];rfl
 ·rw[aD,hl];rfl
 ·by_cases q:i<rs.length
  ·rw[aJ q] at hi
   exact⟨(hrs i r hi).1,f2.at (hrs i r hi).2⟩
  ·have hi2:i=rs.length:=mH hi q
   subst hi2
   rw[bP (aO _),eM] at hi
   obtain rfl:n=r:=Option.some.inj hi
   refine⟨aE f1.next hn,?_⟩
   rw[hl,hG el];exact q2
end
structure QA(w₀:W)(pc:Plc):Prop where
 p:w₀.next≤pc.p
 A:w₀.next≤pc.A
 L:w₀.next≤pc.L
 H:w₀.next≤pc.H
 T:w₀.next≤pc.T
 N:w₀.next≤pc.N
 row:∀(k r:Nat),pc.rs[k]?=some r→w₀.next≤r
theorem QA.far{w₀ w:W}{pc:Plc}{P:Pg}{at_ cs:List Int}{σ:Sr}{sc:Sc}(F:QA w₀ pc)(T:iP w₀ σ sc)(Z:iQ w P pc at_ cs):Pr w sc P pc at_ cs:=
 ⟨Z,T.new F.p,T.new F.A,T.new F.L,T.new F.H,T.new F.T,T.new F.N,λk r ξ h=>T.new (F.row k r h)⟩
section
variable{G:List Int}{C:Cl}{w w₀:W}{Q:Cq}{L₀:List (List Int)}{σ:Sr}{sc:Sc}{c:Cc}{pc:Plc}{nA:Nat}{rs:List Nat}
theorem VD(h1:yY C)(b:Rb Q L₀ σ w₀ sc c)(hA:At w nA (.list (rs.map .ref)))(hn:w₀.next≤nA)(a:OaI Q L₀ w₀ Q.n (rs.map .ref) w)(d2 d4 d5 d6 d7 d8:V):GoS (stW G C (gH 2 fT)) [.obj 2 c.q,.obj 0 sc.s,d2,.ref nA,d4,d5,d6,d7,d8] w
  (λρ w'=>∃pc:Plc,ρ=onV c sc.s pc nA d2 d5 d6 d7 d8∧Fm0 w₀ w'∧QA w₀ pc∧iQ w' (fZ Q L₀) pc (at0 (fZ Q L₀).able.length) (ctL (at0 (fZ Q L₀).able.length) (fZ Q L₀).lows.length)):=λK2 kk=>by
 have O:=b.X.O.toOk
 have PO:=Bi O b.X.n b.X.sub
 have few:=O.few
 have n4:=O.n
 have l3:lim=100000:=rfl
 have et:(tk Q.n).length=Q.n:=by unfold tk;rw[aA,aP]
 have al:(fZ Q L₀).able.length=Q.n:=by show(L₀.map _).length=_;rw[aA,b.X.n]
 obtain⟨rs2,_,e,hl,f,hrs⟩:=a
 have e:rs=rs2:=by
  have:∀a b:List Nat,a.map V.ref=b.map V.ref→a=b:=λa=>by induction a with
   |nil=>intro b h;cases b with | nil=>rfl | cons=>cases h
   |cons x a ih=>intro b h;cases b with | nil=>cases h | cons y b=>injection h with h1 h2;injection h1 with h1;rw[h1,ih b h2]
  exact this _ _ e
 subst e
 have S1:=b.far.cd.keep f
 have g1:=(Fm.refl (M:=λξ=>False) (w:=w)).add (.list [.int 0])
 have S2:=S1.keep g1
 have g2:=g1.add (.list (Q.los.map .int++[.int 0]))
 have S3:=S1.keep g2
 have g3:=g2.add (.list [.int (((tk Q.n).length:Nat)+1)])
 have S4:=S1.keep g3
 have g4:=g3.add (.list (Q.his.map .int++[.int (((tk Q.n).length:Nat)+1)]))
 have g5:=g4.add (.ns [])
 refine ok (fld S1.ns (by decide) rfl rfl) (ok (add_list S2.los (At.new _ _) (by rw[aD,aA,←O.l1];show Q.ws.length+1≤lim;lia)) (ok (fld S3.ns (by decide) rfl rfl) (ok (fld S3.ns (by decide) rfl rfl) (ok (add_list S4.his (At.new _ _) (by rw[aD,aA,←O.l2];show Q.ws.length+1≤lim;lia)) ?_))))
 refine h1 (fZ Q L₀) _ nA _ _ rs _ _ PO ⟨At.new _ _,g5.at hA,hl.trans al.symm,λk hk=>?_,((((At.new (w.add (.list [.int 0])) (.list (Q.los.map .int++[.int 0]))).add _).add _).add _).cast (by rw[aI];rfl),((At.new _ (.list (Q.his.map .int++[.int (((tk Q.n).length:Nat)+1)]))).add _).cast (by rw[aI,et];rfl)⟩ λw6 T N P6 f6 lT lN=>⟨rfl,kk _ _ ⟨_,rfl,?_,⟨?_,hn,?_,?_,?_,?_,λk r hr=>(hrs k r hr).1⟩,P6⟩⟩
 ·rw[al] at hk
  obtain⟨r,hr⟩:∃r,rs[k]?=some r:=⟨rs[k]'(by simp +arith [*]),aC _⟩
  obtain⟨l,el⟩:∃l,L₀[k]?=some l:=⟨_,oM (by rw[b.X.n];exact hk)⟩
  refine⟨r,hr,?_⟩
  have:=(hrs k r hr).2
  rw[hG el] at this
  rw[Tu el];exact g5.at this
 ·exact(f.trans g5).fresh f6 λn z=>.inr (by rw[z];exact aE f.next g4.next)
 ·exact aE f.next g4.next
 ·exact aE f.next g1.next
 ·exact aE f.next g3.next
 ·exact aE (f.trans g5).next lT
 ·exact aE (f.trans g5).next lN
end
noncomputable def Ha(C:Cl):Prop:=∀Q c L₀ σ sc w K,Rb Q L₀ σ w sc c →
 (∀w' σ' sc' L' at_,gU w sc w' σ' sc'→Run Q σ L₀ σ' L'→Sol Q L₀ at_→Cut L₀ L' (Bo Q L₀ at_ (Q.ws.length+1))→K (.bool true) w')→(∀d w',BB Q L₀ σ w sc d w'→K d w')→C Vm [.obj 2 c.q,.obj 0 sc.s] w K
section
variable{G:List Int}{C:Cl}{w w₀:W}{Q:Cq}{L₀:List (List Int)}{σ:Sr}{sc:Sc}{c:Cc}{K:Kv}
theorem RP{m n:Nat}{a b:List Nat}(h1:At w m (.list (a.map nv)))(h2:At w n (.list (b.map nv))):jK .NotEq w (.ref m) (.ref n)=some (!decide (a=b)):=by
 show Option.map (!·) (jK .Eq w (.ref m) (.ref n))=_
 rw[DW h1 h2];rfl
theorem VE(b:Rb Q L₀ σ w₀ sc c)(d2 d3 d4 d5 d6 d7 d8:V):GoS (stW G C (gH 0 fT)) [.obj 2 c.q,.obj 0 sc.s,d2,d3,d4,d5,d6,d7,d8] w₀
  (λρ w'=>ρ=[.obj 2 c.q,.obj 0 sc.s,d2,d3,d4,d5,d6,d7,d8]∧Fm0 w₀ w'):=λK2 kk=>by
 have S:=b.far.cd
 have O:=b.X.O
 have few:=O.few
 have l3:lim=100000:=rfl
 have el:((Q.ws.map V.int).length:Nat)=Q.ws.length:=aA ..
 refine ok (fld S.ns (by decide) rfl rfl) (ok (gJ S.ws) (bT (by rw[el];exact lY (by lia)) ?_))
 refine gM (aX Q.ws.length) nv (show Giv _ (lP 0 (Q.ws.map V.int).length) _ by rw[el];exact Giv.nat _ _) (λξ=>false) nv (λi=>[nv i]) (λξ ξ=>rfl) (by rw[aP];show 0+Q.ws.length≤lim;lia) (λi hi w' f T' F' t f'=>?_) λw' f=>?_
 ·have hi:=cK.mp hi
  have S1:=S.keep f
  have e1:=uR (L:=L₀) O.toOk hi
  have e2:=FT (L:=L₀) O.toOk hi
  exact ok (fld S1.ns (by decide) rfl rfl) (ok (fY S1.los (by rw[aK,e1];rfl)) (ok (fld S1.ns (by decide) rfl rfl) (ok (fY S1.his (by rw[aK,e2];rfl)) (dB (λq=>absurd (Nh (L₀:=L₀) O hi) (Int.not_le.mpr q)) λq=>f' _ .refl rfl))))
 ·have e:([]:List V)++((aX Q.ws.length).filter λξ=>false).map nv=([]:List Nat).map nv:=by rw[show((aX Q.ws.length).filter λξ=>false)=[] from List.filter_eq_nil_iff.mpr λξ ξ h=>nomatch h];rfl
  rw[e]
  exact ok (RP (a:=[]) (b:=[]) ((At.new _ _).add _) (At.new _ _)) (kk _ _ ⟨rfl,(f.add _).add _⟩)
theorem Up(h1:sM C)(h2:yY C)(h3:yX C)(h4:xE C)(h5:xX C)(h6:oF C)(h7:sO C)(h8:Do C)(h9:xD C)(h10:Dk C):Ha (gR G C):=λQ c L₀ σ sc w K b kk ke=>by
 have O:=b.X.O.toOk
 have al:(fZ Q L₀).able.length=Q.n:=by show(L₀.map _).length=_;rw[aA,b.X.n]
 have hi0:∀o,o<(fZ Q L₀).lows.length→0≤hi (fZ Q L₀) o:=λo ho=>by
  rw[jT O] at ho
  rcases bO.mp ho with ho | rfl
  ·exact aS (O.pos _ (aF (uR (L:=L₀) O ho))) (Nh b.X.O ho)
  ·rw[Iz O];exact Int.NonNeg.mk (Q.n+1+0)
 refine⟨rfl,?_⟩
 show bkW G C (iU 0 fT) _ _ _
 refine gP rfl (VE b _ _ _ _ _ _ _) λρ w1 zz=>?_
 obtain⟨hρ,f1⟩:=zz
 subst hρ
 refine gP rfl (RK h1 b f1 _ _ _ _ _ _ _) λρ w2 zz=>?_
 obtain⟨n,rs,hρ,hA,hn,oa⟩:=zz
 subst hρ
 refine gP rfl (VD h2 b hA hn oa _ _ _ _ _ _) λρ w3 zz=>?_
 obtain⟨pc,hρ,f3,Fr,P3⟩:=zz
 subst hρ
 refine DZ rfl (NB h3 h4 h5 h6 h7 b ⟨Fr.T,Fr.N⟩ (.mk _ _ _ _ _ _ w3 f3 P3 (Xj hi0))) (λρ w4 h=>h.casesOn λd2 d5 d6 d7 d8 at4 w4 f4 P4 I4=>?_) λρ d w4 h=>ke d w4 h
 refine DZ rfl (RJ h8 h9 h7 b ⟨Fr.T,Fr.N⟩ (.mk _ _ _ _ _ _ w4 f4 P4 (al.symm▸I4) λo ho=>absurd ho (cU _))) (λρ w5 h=>h.casesOn λd2 d5 d6 d7 d8 at5 w5 f5 P5 I5 lo5=>?_) λρ d w5 h=>ke d w5 h
 have Z:Sol Q L₀ at5:=⟨I5,λo ho=>by
  rcases bO.mp ho with ho | rfl
  ·exact lo5 o ho
  ·rw[yR O];exact bU _⟩
 have b5:Rb Q L₀ σ w5 sc c:=⟨b.X,b.D,b.sml,b.far.keep f5,b.at_.keep0 f5⟩
 refine gP rfl (VC h10 b5 Z (Fr.far b.at_ P5) (.mk _ _ _ _ _ σ sc L₀ w5 (gU.refl b5.at_) .nil ⟨rfl,λk l₀ l h1 h2 v=>by rw[h1] at h2;rw[Option.some.inj h2];exact⟨λz=>⟨z,λq=>absurd q (cU _)⟩,λz=>z.1⟩⟩)) λρ w6 h=>h.casesOn λd2 d5 d6 d7 d8 σ' sc' L' w6 T R Ct=>?_
 exact kk w6 σ' sc' L' at5 (T.pre f5) R Z Ct
end
noncomputable def Vl:Fn:=⟨2,3,none,kO⟩
noncomputable def uA(C:Cl):Prop:=∀Q c L₀ σ sc w K,Rb Q L₀ σ w sc c →
 (∀w' σ' sc' L' at_,gU w sc w' σ' sc'→Run Q σ L₀ σ' L'→Sol Q L₀ at_→Cut L₀ L' (Bo Q L₀ at_ (Q.ws.length+1))→K (.bool true) w')→(∀w',BB Q L₀ σ w sc (.bool false) w'→K (.bool false) w')→C Vl [.obj 2 c.q,.obj 0 sc.s] w K
section
variable{G:List Int}{C:Cl}
theorem Uo(h1:Ha C):uA (gR G C):=λQ c L₀ σ sc w K b kk ke=>by
 refine⟨rfl,1,ok (fld b.at_.ns (by decide) rfl rfl) (ok (gJ b.at_.trail) ?_)⟩
 refine ok (fld b.at_.ns (by decide) rfl rfl) (ok (gJ b.at_.trail) (ok (gG b.far.cd.ns (by decide)) (h1 Q c L₀ σ sc w _ b (λw' σ' sc' L' at_ T R Z Ct=>?_) λd w' h=>?_)))
 ·exact ok (fld (b.far.go T).cd.ns (by decide) rfl rfl) (kk w' σ' sc' L' at_ T R Z Ct)
 ·have e:d=.bool false:=by cases h;rfl
  subst e
  exact ke w' h
end
section
variable{P:Pg}{at_ at2:List Int}{cs:List Et}{r s:Nat}
structure SY(P:Pg)(at_:List Int)(r:Nat)(cs:List Et):Prop where
 mv:MvC P at_ r cs
 closed:∀o∈ks cs,∀k p:Nat,o∈ab P k→at_[k]?=some (p:Int)→p∈ks cs
theorem RT(M:MvC P at_ r cs){o p mv:Nat}(ho:o∈ks cs)(ha:o∈ab P mv)(hp:at_[mv]?=some (p:Int))(hn:p∉ks cs):MvC P at_ r (cs++[(p,(mv:Int),(o:Int))]):=by
 have up:∀(i:Nat) (x:Et),cs[i]?=some x→(cs++[(p,(mv:Int),(o:Int))])[i]?=some x:=λi x q=>by rw[aJ (aB.mp q).1];exact q
 refine⟨M.len,?_,up _ _ M.head,λi x hx=>?_⟩
 ·simp only[ks,aI,aY,List.map_nil]
  exact dI.mpr ⟨M.nodup,by simp,λa ha b hb=>by rw[aG.mp hb];exact λq=>hn (q▸ha)⟩
 ·by_cases q:i<cs.length
  ·rw[aJ q] at hx
   exact(M.ent i x hx).imp id λz=>by obtain⟨m,j,f,a,b,c,d,g⟩:=z;exact⟨m,j,f,a,b,c,up _ _ d,g⟩
  ·have hi:i=cs.length:=mH hx q
   subst hi
   rw[bP (aO _),eM] at hx
   obtain rfl:(p,(mv:Int),(o:Int))=x:=Option.some.inj hx
   obtain⟨f,hf,rfl⟩:=bL.mp ho
   obtain⟨j,hj,hg⟩:=cQ hf
   exact .inr ⟨mv,j,f,rfl,M.len▸(aB.mp hp).1,hj,up _ _ (by rw[aC hj,hg]),rfl,hp,ha⟩
theorem VH(M:MvC P at_ r cs)(O:P.Ok)(I:oH P at_ P.able.length)(hr:r<P.lows.length):∀o∈ks cs,o<P.lows.length:=λo ho=>by
 obtain⟨e,he,rfl⟩:=bL.mp ho
 obtain⟨i,hi,hg⟩:=cQ he
 rcases M.ent i e (by rw[aC hi,hg]) with rfl | ⟨mv,j,f,h1,h2,_,_,_,h3,_⟩
 ·have:=M.head;rw[aC hi,hg] at this;rw[Option.some.inj this];exact hr
 ·obtain⟨o,ho,h4⟩:=I.on mv h2
  rw[h3] at h4
  rw[show e.1=o by have:=Option.some.inj h4;lia];exact tE O ho
theorem BV(O:P.Ok)(I:oH P at_ P.able.length)(hr:r<P.lows.length):∀(n:Nat) (cs:List Et),P.lows.length+1≤cs.length+n→MvC P at_ r cs→∃cs,SY P at_ r cs
 |0,cs,h,M=>by
  have:=jH M.nodup (VH M O I hr)
  rw[aA] at this;exact False.elim (bG (aM h this) rfl)
 |n+1,cs,h,M=>by
  by_cases q:∀o∈ks cs,∀k p:Nat,o∈ab P k→at_[k]?=some (p:Int)→p∈ks cs
  ·exact⟨cs,M,q⟩
  ·have⟨o,ho,mv,p,ha,hp,hn⟩:∃o,o∈ks cs∧∃mv p:Nat,o∈ab P mv∧at_[mv]?=some (p:Int)∧p∉ks cs:=Classical.byContradiction λz=>q λo ho k p h1 h2=>Classical.byContradiction λy=>z ⟨o,ho,k,p,h1,h2,y⟩
   exact BV O I hr n _ (by rw[aD,bI];simp_all +arith) (RT M ho ha hp hn)
theorem Ht(O:P.Ok)(I:oH P at_ P.able.length)(hr:r<P.lows.length):∃cs,SY P at_ r cs:=
 BV O I hr P.lows.length [(r,-1,-1)] (by rw[bI];simp_all +arith) ⟨I.len,by simp[ks],rfl,λi e h=>by
  cases i with
  |zero=>exact .inl rfl
  |succ i=>cases h⟩
structure Tw(P:Pg)(at_:List Int)(cs:List Et)(s r:Nat)(Z:Nat→Prop)(at2:List Int):Prop where
 m:Mvd P at_ at2 s r
 moved:∀j:Nat,at2[j]?=at_[j]?∨∃o:Nat,at_[j]?=some (o:Int)∧o∈ks cs∧o≠r∧Z o
theorem ES(M:MvC P at_ r cs){Z:Nat→Prop}(hZ:∀(mv o o2:Nat),Z o→at_[mv]?=some (o:Int)→o2∈ab P mv→Z o2):∀(n i op:Nat) (at2:List Int),i<n→MvS P at_ cs s i op at2→Z op→(∀j:Nat,at2[j]?=at_[j]?∨∃o:Nat,at_[j]?=some (o:Int)∧o∈ks cs∧o≠r∧Z o)→∃at3,Tw P at_ cs s r Z at3
 |0,i,_,_,h,_,_,_=>absurd h (cU _)
 |n+1,i,op,at2,h,S,z,mvd=>by
  by_cases q:op=r
  ·obtain⟨_,hc⟩:=NK M S q
   obtain⟨_,_,_,_,_,hl,hon⟩:=S
   exact⟨at2,⟨hl,hon,hc⟩,mvd⟩
  ·obtain⟨e,mv,y,o2,he,rfl,h2,h3,hlt,hy,S2⟩:=Ig M S q
   obtain⟨i2,hi2,hg⟩:=cQ he
   rcases M.ent i2 e (by rw[aC hi2,hg]) with rfl | ⟨mv',j,f,h4,h5,h6,h7,h8,h9,h10⟩
   ·have:=M.head;rw[aC hi2,hg] at this;rw[Option.some.inj this] at q;exact absurd rfl q
   ·obtain rfl:mv'=mv:=by rw[h2] at h4;exact(dS.mp h4).symm
    obtain rfl:f.1=o2:=by rw[h3] at h8;exact(dS.mp h8).symm
    refine ES M hZ n y _ _ (by exact aE hy (eG h)) S2 (hZ mv' e.1 f.1 z h9 h10) λj=>?_
    by_cases w:mv'=j
    ·subst w;exact .inr ⟨e.1,h9,bL.mpr ⟨e,he,rfl⟩,q,z⟩
    ·rw[cB w];exact mvd j
theorem MY(M:MvC P at_ r cs){Z:Nat→Prop}(hZ:∀(mv o o2:Nat),Z o→at_[mv]?=some (o:Int)→o2∈ab P mv→Z o2)(hs:s∈ks cs)(z:Z s):∃at3,Tw P at_ cs s r Z at3:=by
 obtain⟨e,he,rfl⟩:=bL.mp hs
 obtain⟨i,hi,hg⟩:=cQ he
 exact ES M hZ (i+1) i e.1 at_ (cV _) (Id (by rw[aC hi,hg])) z λj=>.inl rfl
end
section
variable{Q:Cq}{L₀:List (List Int)}{at_ at2:List Int}{k p a r late:Nat}
theorem IJ(X:Ctx Q L₀)(Z:Sol Q L₀ at_)(hl:at2.length=at_.length)(hon:∀j:Nat,at2[j]?=at_[j]?∨∃o∈ab (fZ Q L₀) j,at2[j]?=some (o:Int))(hk:at2[k]?=some (a:Int))(hp:p∈ab (fZ Q L₀) k)(hi_:∀o,o<Q.ws.length+1→cn (at2.set k (p:Nat)) o≤hi (fZ Q L₀) o)(lo_:∀o,o<Q.ws.length+1→lo (fZ Q L₀) o≤cn (at2.set k (p:Nat)) o):∃b,Sol Q L₀ b∧b[k]?=some (p:Int):=by
 have kl:=(aB.mp hk).1
 refine⟨at2.set k (p:Nat),⟨⟨by rw[bR,hl];exact Z.pl.len,λj hj=>?_,λj hj h2=>?_,λo ho=>hi_ o (by rwa [jT X.O.toOk] at ho)⟩,lo_⟩,by rw[cJ kl]⟩
 ·by_cases q:k=j
  ·subst q;exact⟨p,hp,by rw[cJ kl]⟩
  ·rw[cB q]
   rcases hon j with h | ⟨o,h1,h2⟩
   ·rw[h];exact Z.pl.on j hj
   ·exact⟨o,h1,h2⟩
 ·rw[bR,hl,Z.pl.len] at h2;exact False.elim (bG (aM h2 hj) rfl)
theorem JK(a:Int):dl a a=1:=if_pos rfl
theorem To{a b:Int}(h:a≠b):dl a b=0:=if_neg h
theorem QR(X:Ctx Q L₀)(Z:Sol Q L₀ at_)(hk:k<Q.n)(hp:p∈ab (fZ Q L₀) k)(hK:Kp (fZ Q L₀) at_ k p):∃b,Sol Q L₀ b∧b[k]?=some (p:Int):=by
 have O:=X.O.toOk
 have PO:=Bi O X.n X.sub
 obtain⟨a,ha,hre⟩:=hK
 have al:a<(fZ Q L₀).lows.length:=by
  obtain⟨o,h1,h2⟩:=HD Z.pl ha
  rw[show a=o by lia];exact tE PO h1
 obtain⟨ca,TA⟩:=Ht PO Z.pl al
 have aU:a∈ks ca:=bL.mpr ⟨_,aF TA.mv.head,rfl⟩
 by_cases pU:p∈ks ca
 ·obtain⟨at3,S⟩:=MY (Z:=λξ=>True) TA.mv (λξ ξ ξ ξ ξ ξ=>trivial) pU trivial
  have h3:at3[k]?=some (a:Int):=by
   rcases S.moved k with h | ⟨o,h1,_,h2,_⟩
   ·rw[h];exact ha
   ·rw[ha] at h1;exact absurd (by have:=Option.some.inj h1;lia) h2
  have e:∀o:Nat,cn (at3.set k (p:Nat)) o=cn at_ o:=λo=>by
   have h1:=Ai (p:Nat) o h3
   have h2:=S.m.cnt o
   simp_all +arith
  exact IJ X Z S.m.len S.m.on h3 hp (λo ho=>by rw[e];exact Z.pl.hi o (by rw[jT O];exact ho)) λo ho=>by rw[e];exact Z.lo o ho
 ·have clU:∀(mv o o2:Nat),o∉ks ca→at_[mv]?=some (o:Int)→o2∈ab (fZ Q L₀) mv→o2∉ks ca:=λmv o o2 h1 h2 h3 h4=>h1 (TA.closed o2 h4 mv o h3 h2)
  have⟨late,l1,l2,l3⟩:∃late,late<(fZ Q L₀).lows.length∧late∈ks ca∧lo (fZ Q L₀) late<cn at_ late:=Classical.byContradiction λz =>
   hre (·∉ks ca) pU (λo h1 j h2 q h3=>clU j o q h1 h2 h3) (λξ o h1 h2 h3=>z ⟨o,h1,h3,h2⟩) aU
  have⟨r,cr,r1,r2,TR,pR⟩:∃r cr,r<(fZ Q L₀).lows.length∧cn at_ r<hi (fZ Q L₀) r∧SY (fZ Q L₀) at_ r cr∧p∈ks cr:=Classical.byContradiction λz =>
   (hre (λo=>o∉ks ca∧∀r cr,r<(fZ Q L₀).lows.length→cn at_ r<hi (fZ Q L₀) r→SY (fZ Q L₀) at_ r cr→o∉ks cr) ⟨pU,λr cr h1 h2 h3 h4=>z ⟨r,cr,h1,h2,h3,h4⟩⟩
    (λo h1 j h2 q h3=>⟨clU j o q h1.1 h2 h3,λr cr g1 g2 g3 g4=>h1.2 r cr g1 g2 g3 (g3.closed q g4 j o h3 h2)⟩)
    λz=>z.elim λo z=>(Ht PO Z.pl z.1).elim λcr T=>absurd (bL.mpr ⟨_,aF T.mv.head,rfl⟩) (z.2.1.2 o cr z.1 z.2.2 T)).1 aU
  obtain⟨at1,S1⟩:=MY (Z:=(·∉ks ca)) TR.mv clU pR pU
  have fix:∀(j o:Nat),at_[j]?=some (o:Int)→o∈ks ca→at1[j]?=some (o:Int):=λj o h1 h2=>by
   rcases S1.moved j with h | ⟨q,g1,_,_,g2⟩
   ·rw[h];exact h1
   ·rw[h1] at g1
    exact absurd (show q∈ks ca by rw[show q=o by have:=Option.some.inj g1;lia];exact h2) g2
  have M1:MvC (fZ Q L₀) at1 a ca:=⟨S1.m.len.trans TA.mv.len,TA.mv.nodup,TA.mv.head,λi e he=>(TA.mv.ent i e he).imp id λz=>by obtain⟨mv,j,f,h1,h2,h3,h4,h5,h6,h7⟩:=z;exact⟨mv,j,f,h1,h2,h3,h4,h5,fix mv e.1 h6 (bL.mpr ⟨e,aF he,rfl⟩),h7⟩⟩
  obtain⟨at2,S2⟩:=MY (Z:=λξ=>True) M1 (λξ ξ ξ ξ ξ ξ=>trivial) l2 trivial
  have h1:=fix k a ha aU
  have h2:at2[k]?=some (a:Int):=by
   rcases S2.moved k with h | ⟨o,g1,_,g2,_⟩
   ·rw[h];exact h1
   ·rw[h1] at g1;exact absurd (by have:=Option.some.inj g1;lia) g2
  have e:∀o:Nat,cn (at2.set k (p:Nat)) o+dl (late:Nat) o=cn at_ o+dl (r:Nat) o:=λo=>by
   have h3:=Ai (p:Nat) o h2
   have h4:=S2.m.cnt o
   have h5:=S1.m.cnt o
   exact(ZN h3 h4).trans h5
  refine IJ X Z (S2.m.len.trans S1.m.len) (λj=>?_) h2 hp (λo ho=>?_) λo ho=>?_
  ·rcases S2.m.on j with h | h
   ·rcases S1.m.on j with g | ⟨q,g1,g2⟩
    ·exact .inl (h.trans g)
    ·exact .inr ⟨q,g1,h.trans g2⟩
   ·exact .inr h
  ·have e0:=e o
   have d0:=Oo (late:Int) o
   have:=Z.pl.hi o (by rw[jT O];exact ho)
   by_cases q:r=o
   ·subst q;rw[JK (r:Int)] at e0;exact Lr e0 d0 r2
   ·rw[To (a:=(r:Int)) (b:=o) λz=>q (dS.mp z)] at e0;exact Lr e0 d0 ((Int.add_zero _).symm▸this)
  ·have e0:=e o
   have d0:=Oo (r:Int) o
   have:=Z.lo o ho
   by_cases q:late=o
   ·subst q;rw[JK (late:Int)] at e0;exact Im e0 d0 l3
   ·rw[To (a:=(late:Int)) (b:=o) λz=>q (dS.mp z)] at e0;exact Im e0 d0 ((Int.add_zero _).symm▸this)
end
structure Row0(Q:Cq)(L:List (List Int))(r:List Int):Prop where
 len:r.length=Q.n
 keeps:lD Q r
 wth:Wth r L
section
variable{Q:Cq}{L₀ L':List (List Int)}{at_ b:List Int}{k:Nat}{v:Int}{l₀ l:List Int}
theorem Qd(X:Ctx Q L₀)(Z:Sol Q L₀ b)(h0:L₀[k]?=some l₀)(hv:v∈l₀)(hb:b[k]?=some ((opt Q v:Nat):Int)):∃r,Row0 Q L₀ r∧r[k]?=some v:=by
 have O:=X.O.toOk
 have kl:k<Q.n:=by rw[←X.n];exact(aB.mp h0).1
 have key:∀j:Nat,∃u:Int,j<Q.n→(∀l,L₀[j]?=some l→u∈l)∧b[j]?=some ((opt Q u:Nat):Int)∧(j=k→u=v):=λj=>by
  by_cases q:j<Q.n
  ·by_cases e:j=k
   ·subst e
    exact⟨v,λξ=>⟨λl hl=>by rw[h0] at hl;rw[←Option.some.inj hl];exact hv,hb,λξ=>rfl⟩⟩
   ·obtain⟨a,h1,h2,_⟩:=Cn X Z q
    obtain⟨l,hl⟩:∃l,L₀[j]?=some l:=⟨_,oM (by rw[X.n];exact q)⟩
    obtain⟨u,hu,e2⟩:=(pE O X.sub hl).mp h1
    exact⟨u,λξ=>⟨λm hm=>by rw[hl] at hm;rw[←Option.some.inj hm];exact hu,by rw[e2];exact h2,λz=>absurd z e⟩⟩
  ·exact⟨0,λz=>absurd z q⟩
 obtain⟨f,hf⟩:=Classical.axiomOfChoice key
 have gr:∀j,j<Q.n→((aX Q.n).map f)[j]?=some (f j):=λj hj=>by rw[aK,cI hj];rfl
 have len:((aX Q.n).map f).length=Q.n:=by rw[aA,aP]
 have ear:sU Q ((aX Q.n).map f)=b:=by
  apply eX
  intro j
  by_cases q:j<Q.n
  ·rw[PS (gr j q),(hf j q).2.1]
  ·rw[bN (by unfold sU;rw[aA,len];simp_all +arith),bN (by rw[Z.len X];simp_all +arith)]
 refine⟨(aX Q.n).map f,⟨len,λj w l h e1 e2 e3=>?_,len.trans X.n.symm,λj u l hu hl=>?_⟩,by rw[gr k kl,(hf k kl).2.2 rfl]⟩
 ·have jl:=(aB.mp e1).1
  have c:=Ox (r:=(aX Q.n).map f) O jl
  rw[ear,hG e1] at c
  have a1:=Z.lo j (bD jl)
  have a2:=Z.pl.hi j (by rw[jT O];exact bD jl)
  have b1:=uR (L:=L₀) O jl
  have b2:=FT (L:=L₀) O jl
  rw[e2] at b1
  rw[e3] at b2
  rw[Option.some.inj b1,Option.some.inj b2,←c]
  exact⟨a1,a2⟩
 ·have jl:j<Q.n:=by rw[←X.n];exact(aB.mp hl).1
  rw[gr j jl] at hu
  rw[←Option.some.inj hu];exact(hf j jl).1 l hl
theorem ZK(X:Ctx Q L₀)(Z:Sol Q L₀ at_)(Ct:Cut L₀ L' (Bo Q L₀ at_ (Q.ws.length+1)))(hl:L'[k]?=some l)(hv:v∈l):∃r,Row0 Q L₀ r∧r[k]?=some v:=by
 have kl:k<L₀.length:=by rw[←Ct.len];exact(aB.mp hl).1
 obtain⟨l₀,h0⟩:∃l,L₀[k]?=some l:=⟨_,oM kl⟩
 obtain⟨h1,h2⟩:=(Ct.mem k l₀ l h0 hl v).mp hv
 obtain⟨b,hb,e⟩:=QR X Z (by rw[←X.n];exact kl) ((pE X.O.toOk X.sub h0).mpr ⟨v,h1,rfl⟩) (h2 (fK Cx))
 exact Qd X hb h0 h1 e
theorem EN(X:Ctx Q L₀)(Z:Sol Q L₀ at_)(Ct:Cut L₀ L' (Bo Q L₀ at_ (Q.ws.length+1)))(D:∀l∈L',l≠[]):∃r,Row0 Q L₀ r:=by
 have n:=X.O.n
 obtain⟨l,hl⟩:∃l,L'[0]?=some l:=⟨_,oM (by rw[Ct.len,X.n];lia)⟩
 obtain⟨v,hv⟩:=List.exists_mem_of_ne_nil l (D l (aF hl))
 exact(ZK X Z Ct hl hv).imp λr h=>h.1
end
theorem Run.none{Q:Cq}{σ σ':Sr}{L L':List (List Int)}(R:Run Q σ L σ' L')(hn:L.length=Q.n)(h:∀(k:Nat) l v,L[k]?=some l→v∈l→∃r,Row0 Q L r∧r[k]?=some v):σ'=σ∧L'=L:=by
 induction R with
 |nil=>exact⟨rfl,rfl⟩
 |snoc σ' L' k l v ls R hk hv hne J _ ih =>
  obtain⟨rfl,rfl⟩:=ih
  obtain⟨r,hr,e⟩:=h k l v hk hv
  exact absurd (λt ht=>sI (J.hol t ht) hr.wth) (J.no r hr.len hr.keeps e)
noncomputable def SB:Fn:=⟨2,3,none,uY⟩
noncomputable def Vj:Fn:=⟨2,4,none,xQ⟩
noncomputable def jX(C:Cl):Prop:=∀n x (m:Int) w K,At w n (.list [.int x])→0<m→m<1000→(∀w',At w' n (.list [.int (x.fdiv m)])→Fm (· = n) w w'→K (.int (x.fmod m)) w')→C SB [.ref n,.int m] w K
noncomputable def rX(C:Cl):Prop:=∀(t:Lit) (v:Int) w K,t.2.1<4→K (.bool (hX t.2.1 t.2.2 v)) w→C Vj [iG t,.int v] w K
section
variable{G:List Int}{C:Cl}
theorem mod_int{w:W}{i j:Int}(h:j≠0):Db .Mod w (.int i) (.int j)=some (.int (i.fmod j),w):=by
 show(if Operator.Mod=.Mod∧j≠0 then some (V.int (i.fmod j),w) else _)=_
 exact if_pos ⟨rfl,h⟩
theorem JL{w:W}{i j:Int}(h:j≠0)(h2:j.natAbs<1000000):Db .FloorDiv w (.int i) (.int j)=some (.int (i.fdiv j),w):=by
 show(if Operator.FloorDiv=.Mod∧j≠0 then some (V.int (i.fmod j),w) else if Operator.FloorDiv=.FloorDiv∧j≠0∧j.natAbs<1000000 then some (V.int (i.fdiv j),w) else _)=_
 rw[if_neg λz=>nomatch z.1]
 exact if_pos ⟨rfl,h,h2⟩
theorem DX{w:W}{i j:Int}:jK .Eq w (.int i) (.int j)=some (decide (i=j)):=rN (lZ _) (lZ _) (kT i j)
theorem On(a b:Bool):PyData.eqv (.bool a) (.bool b)=(a==b):=by cases a<;>cases b<;>simp[PyData.eqv]
theorem Qt:jX (gR G C):=λn x m w K h h0 h1 k =>
 ⟨rfl,ok (fY (i:=0) h rfl) (ok (mod_int (Int.ne_of_gt h0)) (ok (fY (i:=0) h rfl) (ok (JL (Int.ne_of_gt h0) (cH.mp (Int.lt_of_le_of_lt (Int.le_of_eq (Int.natAbs_of_nonneg (fN h0))) (Int.lt_trans h1 (by decide))))) (ok (jN (i:=0) h (fM _)) (k _ (h.put _) ((Fm.refl (M:=(· = n))).set (.inl rfl) _))))))⟩
theorem Um:rX (gR G C):=λt v w K hs k=>by
 obtain⟨x,s,n⟩:=t
 have h6:s<6:=cO hs (by decide)
 unfold hX at k
 refine⟨rfl,ok (qG h6 (by decide)) (dB (λq=>?_) λq0=>ok (qG h6 (by decide)) (dB (λq=>?_) λq1=>ok (qG (b:=2) h6 (by decide)) ?_))⟩
 ·rw[if_pos q] at k;exact k
 ·rw[if_neg q0,if_pos q] at k;exact k
 ·rw[if_neg q0,if_neg q1] at k
  have e:(decide (v=n)==decide (s=2))=(if s=2 then decide (v=n) else decide (v≠n)):=by
   by_cases a:s=2<;>by_cases b:v=n<;>simp[a,b]
  rw[←e,←kT,←On] at k
  exact k
end
noncomputable def LE:Fn:=⟨3,3,none,rF⟩
noncomputable def LW(n:Nat)(t:Lit):Prop:=∃k:Nat,t.1=((k+1:Nat):Int)∧k<n∧t.2.1<4
noncomputable def yA(t:Lit)(r:List Int):Bool:=hX t.2.1 t.2.2 (r.getD (t.1-1).toNat 0)
noncomputable def mE(C:Cl):Prop:=∀(ls:List Lit) (r:List Int) w K,(∀t∈ls,LW r.length t)→ls.length<lim→(∀w',Fm0 w w'→K (.bool (ls.all λt=>yA t r)) w')→C LE [AO ls,iT r,.int 1] w K
theorem rA{w:W}{n m:Nat}{xs:List PyData}(h:rd w 8 (.ref n)=some (.list xs))(hm:At w m (.list [])):jK .Eq w (.ref n) (.ref m)=some xs.isEmpty:=
 rN h (oQ (k:=7) (e:=λo:Nat=>nv o) (g:=λo=>PyData.int (o:Nat)) [] hm (λξ h=>nomatch h)) (by cases xs<;>simp[PyData.eqv,PyData.eqvAll])
noncomputable def YF(t:Lit):PyData:=.tuple [.int t.1,.str (lF t.2.1),.int t.2.2]
theorem Mr{w:W}{k:Nat}{t:Lit}(h:t.2.1<6):rd w (k+1) (iG t)=some (YF t):=by
 show(rds (rd w k) [.int t.1,.str t.2.1,.int t.2.2]).map PyData.tuple=_
 show(((rd w k (.int t.1)).bind λa=>(((rd w k (.str t.2.1)).bind λb=>(((rd w k (.int t.2.2)).bind λc=>some [c])).map (b::·))).map (a::·))).map PyData.tuple=_
 rw[lZ,lZ,IQ h];rfl
theorem Ed(r:List Int):∀ls:List Lit,((ls.filter λt=>!yA t r).map YF).isEmpty=ls.all λt=>yA t r
 |[]=>rfl
 |t::ls=>by
  rw[List.filter_cons,List.all_cons]
  cases q:yA t r with
  |true=>exact Ed r ls
  |false=>rfl
section
variable{G:List Int}{C:Cl}
theorem wO{w:W}{ds:List V}{i:Int}{k:Nat}{d:V}(e:i=(k:Nat))(h:ds[k]?=some d):jF w (.tup ds) (.int i)=some d:=by subst e;exact pN h
theorem KK(h1:rX C):mE (gR G C):=λls r w K hl ll k=>by
 refine⟨rfl,gM ls iG (Giv.tup _ _) (λt=>!yA t r) iG (λt=>[iG t]) (λξ ξ=>rfl) (by show 0+ls.length≤lim;lia) (λt ht w1 f1 T F tt ff=>?_) λw1 f1=>?_⟩
 ·obtain⟨j,e,lt,hs⟩:=hl t ht
  have ej:(t.1-1).toNat=j:=by rw[e];(simp at *;done)
  have er:r[j]?=some (r.getD (t.1-1).toNat 0):=by rw[ej,aL,aC lt];rfl
  refine ok (wO (k:=j) (by rw[e];(simp at *;done)) (by rw[aK,er];rfl)) (h1 t _ w1 _ hs ?_)
  show Bool.rec (motive:=λξ=>Prop) _ _ (!yA t r)
  exact bB (λq=>tt _ .refl q) λq=>ff _ .refl q
 ·have h8:=oQ (k:=7) (ls.filter λt=>!yA t r) ((At.new w1 (.list ((ls.filter λt=>!yA t r).map iG))).add (.list [])) λt ht=>Mr (k:=6) (by obtain⟨_,_,_,q⟩:=hl t (bX.mp ht).1;exact bD (bD q))
  refine ok (rA h8 (At.new _ _)) ?_
  have e:=Ed r ls
  rw[e]
  exact k _ ((f1.add _).add _)
end
inductive iI(w:W)(n:Nat)(L:List (List Int)):Prop
 |mk (rs:List Nat):At w n (.list (rs.map .ref))→rs.length=L.length→(∀(k r:Nat) l,rs[k]?=some r→L[k]?=some l→At w r (.list (l.map .int)))→iI w n L
theorem iI.keep{w w':W}{n:Nat}{L:List (List Int)}(h:iI w n L)(f:Fm0 w w'):iI w' n L:=h.casesOn λrs a b c=>.mk rs (f.at a) b λk r l h1 h2=>f.at (c k r l h1 h2)
inductive LsI(w:W)(n k:Nat)(l:List Int):Prop | mk (r:Nat):jF w (.ref n) (nv k)=some (.ref r)→At w r (.list (l.map .int))→LsI w n k l
theorem iI.item{w:W}{n k:Nat}{L:List (List Int)}{l:List Int}(h:iI w n L)(e:L[k]?=some l):LsI w n k l:=h.casesOn λrs a b c=>by
 have lt:k<rs.length:=by rw[b];exact(aB.mp e).1
 have e2:rs[k]?=some rs[k]:=aC lt
 exact⟨rs[k],fY a (by rw[aK,e2];rfl),c k _ l e2 e⟩
noncomputable def Gs:Fn:=⟨3,4,none,qO⟩
noncomputable def FS(L:List (List Int))(t:Lit):Bool:=(L.getD (t.1-1).toNat []).all λv=>hX t.2.1 t.2.2 v
noncomputable def lA(C:Cl):Prop:=∀(ls:List Lit) (L:List (List Int)) n w K,(∀t∈ls,LW L.length t)→(∀l∈L,l.length<100)→iI w n L→(∀w',Fm0 w w'→K (.bool (ls.all (FS L))) w')→C Gs [AO ls,.ref n,.int 1] w K
theorem Ee(t:Lit):∀l:List Int,(l.filter λv=>!hX t.2.1 t.2.2 v).isEmpty=l.all λv=>hX t.2.1 t.2.2 v
 |[]=>rfl
 |v::l=>by
  rw[List.filter_cons,List.all_cons]
  cases q:hX t.2.1 t.2.2 v with
  |true=>exact Ee t l
  |false=>rfl
inductive HoI(ls:List Lit)(L:List (List Int))(n:Nat)(w₀:W)(j:Nat):List V→W→Prop
 |mk (a:V) (w:W):Fm0 w₀ w→(ls.take j).all (FS L)=true→HoI ls L n w₀ j [AO ls,.ref n,.int 1,a] w
section
variable{G:List Int}{C:Cl}
theorem Bz{w:W}{n k:Nat}{i:Int}{d:V}(e:i=(k:Nat))(h:jF w (.ref n) (nv k)=some d):jF w (.ref n) (.int i)=some d:=by subst e;exact h
theorem Eh{w:W}{n m:Nat}{l:List Int}(h:At w n (.list (l.map .int)))(hm:At w m (.list [])):jK .NotEq w (.ref n) (.ref m)=some (!l.isEmpty):=by
 show Option.map (!·) (jK .Eq w (.ref n) (.ref m))=_
 rw[rA (oQ (k:=7) l h λi ξ=>lZ i) hm];cases l<;>rfl
theorem GW(h1:rX C):lA (gR G C):=λls L n w K hl hs hL k=>by
 refine⟨rfl,nZ (Giv.tup (λξ=>True) _) (HoI ls L n w) (λξ ξ ξ ξ=>trivial) (.mk _ _ .refl rfl) (λρ w1 h=>h.casesOn λa w1 f1 e=>?_) λj t hj ρ w1 h R hR=>h.casesOn λa w1 f1 e=>?_⟩
 ·have:=k w1 f1
  rw[bM] at e
  rw[e] at this;exact this
 ·obtain⟨x,e1,lt,hs4⟩:=hl t (aF hj)
  obtain⟨l,el⟩:∃l,L[x]?=some l:=⟨_,oM lt⟩
  have eh:FS L t=l.all λv=>hX t.2.1 t.2.2 v:=by unfold FS;rw[show(t.1-1).toNat=x by rw[e1];(simp at *;done),hG el]
  have l3:lim=100000:=rfl
  have ll:=hs l (aF el)
  refine((hL.keep f1).item el).casesOn λr hi hr=>ok (Bz (k:=x) (by rw[e1];(simp at *;done)) hi) (ok (fV hr) (gM l .int (Giv.cell λw' f=>f.at hr) (λv=>!hX t.2.1 t.2.2 v) .int (λv=>[.int v]) (λξ ξ=>rfl) (by show 0+l.length≤lim;lia) (λv hv w2 f2 T F tt ff=>?_) λw2 f2=>?_))
  ·refine h1 t v w2 _ hs4 ?_
   show Bool.rec (motive:=λξ=>Prop) _ _ (!hX t.2.1 t.2.2 v)
   exact bB (λq=>tt _ .refl q) λq=>ff _ .refl q
  ·refine ok (Eh ((At.new w2 (.list ((l.filter λv=>!hX t.2.1 t.2.2 v).map .int))).add _) (At.new _ _)) ?_
   rw[Ee,←eh]
   refine bB (λq=>?_) λq=>hR _ _ (.mk _ _ ((f1.trans f2).add _ |>.add _) ?_)
   ·have q:FS L t=false:=by simpa using q
    have:=k _ (((f1.trans f2).add (.list ((l.filter λv=>!hX t.2.1 t.2.2 v).map .int))).add (.list []))
    rw[show ls.all (FS L)=false from List.all_eq_false.mpr ⟨t,aF hj,by rw[q];decide⟩] at this
    exact this
   ·rw[gS hj,List.all_append,e];simpa using q
end
theorem Fg{elt:SE}{k k2:Nat}{it2:SI}{it:Nat→It}{ds:List V}{J:W→Prop}{ρ:List V}{K:List V→W→Prop}(S:Giv J it ds)(I:Nat→List V→W→Prop)(hJ:∀j acc w,I j acc w→J w)(step:∀j d,ds[j]?=some d→∀acc w,I j acc w→∀R:List V→W→Prop,(∀acc w,I (j+1) acc w→R acc w)→oK (yB k d) λown=>it2 (ρ++own) w λi2 w=>∃n,xW elt k2 JO n i2 (ρ++own) acc w R)(stop:∀acc w,I ds.length acc w→K acc w)(m:Nat):∀(j:Nat),j+m=ds.length→∀acc w,I j acc w→Gx elt k k2 it2 (m+1) (it j) ρ acc w K:=by
 induction m with
 |zero =>
  intro j e acc w h
  obtain rfl:j=ds.length:=e
  have s:=S ds.length w (hJ _ _ _ h)
  exact bF s.1 (ok (s.2.trans (by rw[bN (aO _),Option.map_none])) (stop _ _ h))
 |succ m ih =>
  intro j e acc w h
  have hlt:j<ds.length:=e▸fD (fM m)
  have s:=S j w (hJ _ _ _ h)
  exact bF s.1 (ok (s.2.trans (by rw[aC hlt,eE])) (step j _ (aC hlt) acc w h _ λacc w h=>ih (j+1) ((eK j m).trans e) acc w h))
noncomputable def Rw:Fn:=⟨2,2,none,uW⟩
inductive LsN(b:Nat)(w:W)(n:Nat)(L:List (List Int)):Prop
 |mk (rs:List Nat):At w n (.list (rs.map .ref))→b≤n→rs.length=L.length→(∀(k r:Nat) l,rs[k]?=some r→L[k]?=some l→At w r (.list (l.map .int))∧b≤r)→LsN b w n L
inductive LsX(M:Nat→Prop)(w:W)(n:Nat)(L:List (List Int)):Prop
 |mk (rs:List Nat):At w n (.list (rs.map .ref))→¬M n→rs.length=L.length→(∀(k r:Nat) l,rs[k]?=some r→L[k]?=some l→At w r (.list (l.map .int))∧¬M r)→LsX M w n L
section
variable{b n:Nat}{w w':W}{L:List (List Int)}{M M':Nat→Prop}
theorem LsN.ls(h:LsN b w n L):iI w n L:=h.casesOn λrs x ξ y z=>.mk rs x y λk r l p q=>(z k r l p q).1
theorem LsX.ls(h:LsX M w n L):iI w n L:=h.casesOn λrs x ξ y z=>.mk rs x y λk r l p q=>(z k r l p q).1
theorem LsN.far(h:LsN b w n L)(q:∀m,M m→m<b):LsX M w n L:=h.casesOn λrs x y z u=>.mk rs x (λe=>dM.mpr y (q n e)) z λk r l c d=>⟨(u k r l c d).1,λe=>dM.mpr (u k r l c d).2 (q r e)⟩
theorem LsX.go(h:LsX M w n L)(f:Fm M w w')(q:∀m,M' m→M m∨w.next≤m):LsX M' w' n L:=h.casesOn λrs x y z u =>
 have g {m:Nat} {d:hW} (h:At w m d) (e:¬M m):¬M' m:=λz=>(q m z).elim e λy=>eF.mpr h.lt y
 .mk rs (f.keep _ _ y x) (g x y) z λk r l c d=>⟨f.keep _ _ (u k r l c d).2 (u k r l c d).1,g (u k r l c d).1 (u k r l c d).2⟩
theorem LsX.keep(h:LsX M w n L)(f:Fm0 w w'):LsX M w' n L:=h.go f.up λm z=>.inl z
end
noncomputable def iR(C:Cl):Prop:=∀Q c σ sc L w K,Q.Ok→Far w sc Q c→iP w σ sc→Dom σ L→L.length=Q.n→(∀w' n,Fm0 w w'→LsN w.next w' n L→K (.ref n) w')→C Rw [.obj 0 sc.s,.obj 2 c.q] w K
inductive LlI(L:List (List Int))(w₀:W)(j:Nat)(acc:List V):W→Prop
 |mk (rs:List Nat) (w:W):acc=rs.map .ref→rs.length=j→Fm0 w₀ w→(∀(k r:Nat) l,rs[k]?=some r→L[k]?=some l→At w r (.list (l.map .int))∧w₀.next≤r)→LlI L w₀ j acc w
section
variable{G:List Int}{C:Cl}
theorem Qo(h1:xX C):iR (gR G C):=λQ c σ sc L w K O Fa T D hL k=>by
 have l3:lim=100000:=rfl
 have n4:=O.n
 have et:(tk Q.n).length=Q.n:=by unfold tk;rw[aA,aP]
 refine⟨rfl,ok (fld Fa.cd.ns (by decide) rfl rfl) ?_⟩
 refine rQ (Giv.tup (λξ=>True) (tk Q.n)) (LlI L w) (λξ ξ ξ ξ=>trivial) (λj d hd acc w1 h R hR=>h.casesOn λrs w1 ea hl f1 hrs=>?_) (λacc w1 h=>h.casesOn λrs w1 ea hl f1 hrs=>k _ _ (f1.add _) (.mk rs (ea▸At.new _ _) f1.next (hl.trans (et.trans hL.symm)) λk r l a b=>⟨(hrs k r l a b).1.add _,(hrs k r l a b).2⟩)) (.mk [] w rfl rfl .refl λk r l a=>nomatch a)
 obtain⟨x,hk,rfl⟩:=kW (f:=λk=>nv (k+1)) hd
 obtain⟨jl,rfl⟩:j<Q.n∧x=j:=by
  have:=(aB.mp hk).1
  rw[aP] at this
  rw[cI this] at hk
  exact⟨this,(Option.some.inj hk).symm⟩
 obtain⟨l,el⟩:∃l,L[x]?=some l:=⟨_,oM (by rw[hL];exact jl)⟩
 have hs:=D.mem el
 have dok:=oO hs
 have T1:=T.keep0 f1
 refine ok (gG T1.ns (by decide)) (h1 sc σ (x+1) _ (D.at el) w1 _ T1 λw2 f2=>⟨_,Fg (Giv.tup (λξ=>True) _) (λj acc w'=>Fm0 w2 w'∧acc=(pW ((mkD l).take j)).map .int) (λξ ξ ξ ξ=>trivial) (λj d hd acc w3 h R2 hR2=>?_) (λacc w3 h=>?_) _ 0 (eJ _) _ _ ⟨.refl,rfl⟩⟩)
 ·obtain⟨p,hp,rfl⟩:=kW hd
  obtain⟨f3,rfl⟩:=h
  have hv:=dok.val p (aF hp)
  have l1:=CI (d:=(mkD l).take j) λq hq=>dok.val q (dY hq)
  have l2:=dok.len
  have lt:=mN (j:=j) l2
  refine bT (b:=jC p.1 (p.2+1)) (qX hv).1 ?_
  refine rR (kN p.1 (p.2+1-p.1).toNat) .int (Giv.rng _ _ _) .int (λv=>[.int v]) (λξ ξ=>rfl) (by rw[aA,kM];exact aE (dH (aE l1 (dJ 21 lt)) (qX hv).2) (by decide)) (λv ξ w4 f4 T F t=>t _ .refl) λw4 f4=>hR2 _ _ ⟨f3.trans f4,?_⟩
  rw[gS hp,CJ,aI,show pW [p]=kN p.1 (p.2+1-p.1).toNat from cD _]
 ·obtain⟨f3,rfl⟩:=h
  rw[aA,bM,uF l hs]
  refine⟨by rw[ea,aA,hl];lia,hR _ _ (.mk (rs++[w3.next]) _ (by rw[ea,aI];rfl) (by rw[aD,hl];rfl) ((f1.trans (f2.trans f3)).add _) λi r m hi hm=>?_)⟩
  by_cases q:i<rs.length
  ·rw[aJ q] at hi
   exact⟨((f2.trans f3).at (hrs i r m hi hm).1).add _,(hrs i r m hi hm).2⟩
  ·have hi2:i=rs.length:=mH hi q
   subst hi2
   rw[bP (aO _),eM] at hi
   obtain rfl:w3.next=r:=Option.some.inj hi
   rw[hl,el] at hm
   rw[←Option.some.inj hm];exact⟨At.new _ _,aE f1.next (f2.trans f3).next⟩
end
noncomputable def OW:Fn:=⟨2,2,none,tA⟩
noncomputable def qB(L:List (List Int))(r:List Int):Bool:=(aX r.length).all λk=>decide (r.getD k 0∈L.getD k [])
theorem Dw{L:List (List Int)}{r:List Int}(h:r.length=L.length):qB L r=true↔Wth r L:=by
 unfold qB
 rw[cC]
 constructor
 ·intro q
  refine⟨h,λk v l h1 h2=>?_⟩
  have:=of_decide_eq_true (q k (cK.mpr (aB.mp h1).1))
  rwa [hG h1,hG h2] at this
 ·intro w k hk
  have hk:=cK.mp hk
  have h1:r[k]?=some r[k]:=aC hk
  obtain⟨l,h2⟩:∃l,L[k]?=some l:=⟨_,oM (by rw[←h];exact hk)⟩
  refine decide_eq_true ?_
  rw[hG h1,hG h2];exact w.2 k _ _ h1 h2
noncomputable def vP(C:Cl):Prop:=∀(rows:List (List Int)) (L:List (List Int)) n m w K,At w n (.list (rows.map iT))→iI w m L→(∀r∈rows,r.length=L.length)→rows.length<1000→L.length<10→(∀w' p,Fm0 w w'→w.next≤p→At w' p (.list ((rows.filter (qB L)).map iT))→K (.ref p) w')→C OW [.ref n,.ref m] w K
section
variable{G:List Int}{C:Cl}
theorem Mn{l:List Int}:((l.map V.int).length:Nat)=l.length:=aA ..
theorem ND{w:W}{n m:Nat}{l:List Nat}(h:At w n (.list (l.map nv)))(hm:At w m (.list [])):jK .Eq w (.ref n) (.ref m)=some l.isEmpty:=by
 rw[DW (b:=[]) h hm];cases l<;>rfl
theorem Ia(p:Nat→Bool):∀l:List Nat,(l.filter λk=>!p k).isEmpty=l.all p
 |[]=>rfl
 |k::l=>by
  rw[List.filter_cons,List.all_cons]
  cases q:p k with
  |true=>exact Ia p l
  |false=>rfl
theorem Mt:vP (gR G C):=λrows L n m w K hn hm hr l1 l2 k=>by
 have l3:lim=100000:=rfl
 refine⟨rfl,ok (fV hn) (gM rows iT (Giv.cell λw' f=>f.at hn) (qB L) iT (λr=>[iT r]) (λξ ξ=>rfl) (by show 0+rows.length≤lim;lia) (λr hrm w1 f1 T F tt ff=>?_) λw1 f1=>k _ _ (f1.add _) f1.next (At.new _ _))⟩
 have len:=hr r hrm
 refine bT (b:=jC 0 ((r.map V.int).length:Nat)) (by rw[Mn];exact lY (by lia)) ?_
 refine gM (aX r.length) nv (show Giv _ (lP 0 (r.map V.int).length) _ by rw[Mn];exact Giv.nat _ _) (λk=>!decide (r.getD k 0∈L.getD k [])) nv (λi=>[nv i]) (λξ ξ=>rfl) (by rw[aP];show 0+r.length≤lim;lia) (λi hi w2 f2 T2 F2 t2 ff2=>?_) λw2 f2=>?_
 ·have hi:=cK.mp hi
  have e1:r[i]?=some (r.getD i 0):=by rw[aL,aC hi];rfl
  obtain⟨l,e2⟩:∃l,L[i]?=some l:=⟨_,oM (by exact aM hi (bH (hr r hrm)))⟩
  refine ok (pN (by rw[aK,e1];rfl)) (((hm.keep (f1.trans f2)).item e2).casesOn λq h1 h2=>ok h1 (ok (nS h2) ?_))
  rw[hG e2] at t2 ff2
  exact bB (λq=>t2 _ .refl q) λq=>ff2 _ .refl q
 ·refine ok (ND ((At.new w2 (.list (((aX r.length).filter λk=>!decide (r.getD k 0∈L.getD k [])).map nv))).add _) (At.new _ _)) ?_
  rw[Ia]
  exact bB (λq=>tt _ ((f2.add _).add _) q) λq=>ff _ ((f2.add _).add _) q
end
noncomputable def Rx:Fn:=⟨4,6,none,uX⟩
noncomputable def yZ(C:Cl):Prop:=∀Q r nw nl nh w K,Q.Ok→Wan w nw nl nh Q.ws Q.los Q.his→r.length≤100→(∀w' b,Fm0 w w'→(b=true↔lD Q r)→K (.bool b) w')→C Rx [iT r,.ref nw,.ref nl,.ref nh] w K
inductive KeI(Q:Cq)(r:List Int)(nw nl nh:Nat)(w₀:W)(j:Nat):List V→W→Prop
 |mk (a b:V) (w:W):Fm0 w₀ w→(∀(i:Nat) (v l h:Int),i<j→Q.ws[i]?=some v→Q.los[i]?=some l→Q.his[i]?=some h→l≤(r.count v:Nat)∧((r.count v:Nat):Int)≤h)→KeI Q r nw nl nh w₀ j [iT r,.ref nw,.ref nl,.ref nh,a,b] w
theorem EZ{n j x:Nat}(h:(aX n)[j]?=some x):j<n∧x=j:=by
 have:=(aB.mp h).1
 rw[aP] at this
 rw[cI this] at h
 exact⟨this,(Option.some.inj h).symm⟩
theorem gat{α:Type}{l:List α}{j:Nat}(h:j<l.length):∃x,l[j]?=some x:=⟨_,aC h⟩
theorem Wan.keep{w w':W}{a b c:Nat}{x y z:List Int}(h:Wan w a b c x y z)(f:Fm0 w w'):Wan w' a b c x y z:=⟨f.at h.ws,f.at h.los,f.at h.his⟩
section
variable{G:List Int}{C:Cl}
theorem Qq:yZ (gR G C):=λQ r nw nl nh w K O Z hr k=>by
 have el:((Q.ws.map V.int).length:Nat)=Q.ws.length:=aA ..
 have few:=O.few
 have l3:lim=100000:=rfl
 refine⟨rfl,ok (gJ Z.ws) (bT (by rw[el];exact lY (by lia)) ?_)⟩
 refine nZ (xs:=aX Q.ws.length) (enc:=nv) (show Giv (λξ=>True) (lP 0 (Q.ws.map V.int).length) _ by rw[el];exact Giv.nat _ _) (KeI Q r nw nl nh w) (λξ ξ ξ ξ=>trivial) (.mk _ _ _ .refl λi v l h q=>absurd q (cU _)) (λρ w' h=>h.casesOn λa b w1 f1 hk=>?_) (λj x hx ρ w' h R hR=>h.casesOn λa b w1 f1 hk=>?_)
 ·exact k _ _ f1 ⟨λξ j v l h a1 a2 a3=>hk j v l h (by rw[aP];exact(aB.mp a1).1) a1 a2 a3,λξ=>rfl⟩
 ·obtain⟨hj,rfl⟩:=EZ hx
  obtain⟨v,hv⟩:=gat hj
  obtain⟨lo,hlo⟩:=gat (l:=Q.los) (by rw[←O.l1];exact hj)
  obtain⟨hi,hhi⟩:=gat (l:=Q.his) (by rw[←O.l2];exact hj)
  have no:¬(lo≤(r.count v:Nat)∧((r.count v:Nat):Int)≤hi)→¬lD Q r:=λq K=>q (K x v lo hi hv hlo hhi)
  refine gM r .int (Giv.tup _ _) (λu=>decide (u=v)) .int (λu=>[.int u]) (λξ ξ=>rfl) (by show 0+r.length≤lim;lia) (λu hu w2 f2 T F tt ff=>?_) λw2 f2=>?_
  ·refine ok (fY (f2.at (f1.at Z.ws)) (by rw[aK,hv];rfl)) (ok DX ?_)
   exact bB (λq=>tt _ .refl q) λq=>ff _ .refl q
  ·have c:((((r.filter λu=>decide (u=v)).map V.int).length:Nat):Int)=((r.count v:Nat):Int):=by rw[aA,List.count_eq_length_filter];rfl
   refine ok (gJ (At.new w2 (.list ((r.filter λu=>decide (u=v)).map V.int)))) ?_
   have f3:Fm0 w (w2.add (.list ((r.filter λu=>decide (u=v)).map V.int))):=(f1.trans f2).add _
   have Z3:=Z.keep f3
   rw[c]
   refine ok (fY (d:=.int lo) Z3.los (by rw[aK,hlo];rfl)) (dB (λq=>k _ _ f3 ⟨λh=>(nomatch h),λh=>absurd h (no λz=>by lia)⟩) λq1=>ok (fY (d:=.int hi) Z3.his (by rw[aK,hhi];rfl)) (dB (λq=>k _ _ f3 ⟨λh=>(nomatch h),λh=>absurd h (no λz=>by lia)⟩) λq2=>?_))
   refine hR _ _ (.mk _ _ _ f3 λi v' l' h' hi2 a1 a2 a3=>?_)
   rcases bO.mp hi2 with hi2 | rfl
   ·exact hk i v' l' h' hi2 a1 a2 a3
   ·rw[hv] at a1;rw[hlo] at a2;rw[hhi] at a3
    cases a1;cases a2;cases a3
    exact⟨by simp_all,by simp_all⟩
end
noncomputable def OZ:Fn:=⟨1,3,none,tB⟩
noncomputable def zN(F:List (List Int))(l:List Int):List (List Int):=F.flatMap λr=>l.map λv=>r++[v]
noncomputable def jW(L:List (List Int)):List (List Int):=L.foldl zN [[]]
theorem IE{F:List (List Int)}{l:List Int}(h:l.length≤4):(zN F l).length≤4*F.length:=by
 unfold zN
 induction F with
 |nil=>exact aO _
 |cons r F ih=>rw[List.flatMap_cons,aD,aA,cT,Nat.mul_succ,Nat.add_comm];exact dH ih h
theorem En:∀{L F:List (List Int)} {r:List Int},r∈L.foldl zN F↔∃a∈F,∃b,Wth b L∧r=a++b
 |[],F,r=>⟨λh=>⟨r,h,[],⟨rfl,λk v l h=>nomatch h⟩,(cD r).symm⟩,λ⟨a,h,b,w,e⟩=>by rw[e,dD.mp w.1,cD];exact h⟩
 |l::L,F,r=>by
  rw[List.foldl_cons,En]
  constructor
  ·rintro⟨a,ha,b,w,rfl⟩
   obtain⟨c,hc,ha⟩:=dZ.mp ha
   obtain⟨v,hv,rfl⟩:=bL.mp ha
   refine⟨c,hc,v::b,⟨congrArg eY w.1,λk x m h1 h2=>?_⟩,by rw[bV];rfl⟩
   cases k with
   |zero=>cases h1;cases h2;exact hv
   |succ k=>exact w.2 k x m h1 h2
  ·rintro⟨a,ha,b,w,rfl⟩
   cases b with
   |nil=>exact absurd w.1 (by simp)
   |cons v b =>
    refine⟨a++[v],dZ.mpr ⟨a,ha,bL.mpr ⟨v,w.2 0 v l rfl rfl,rfl⟩⟩,b,⟨eY.inj w.1,λk x m h1 h2=>w.2 (k+1) x m h1 h2⟩,by rw[bV];rfl⟩
theorem rB{L:List (List Int)}{r:List Int}:r∈jW L↔Wth r L:=En.trans ⟨λ⟨a,h,b,w,e⟩=>by rw[e,aG.mp h];exact w,λw=>⟨[],aG.mpr rfl,r,w,rfl⟩⟩
theorem zY:∀{L:List (List Int)},(∀l∈L,l.length≤4)→∀F,(L.foldl zN F).length≤4^L.length*F.length
 |[],_,F=>by simp
 |l::L,h,F=>by
  have h1:=zY (L:=L) (λm hm=>h m (bA _ hm)) (zN F l)
  have h2:=IE (F:=F) (h l aZ)
  rw[List.foldl_cons,cT,Nat.pow_succ]
  refine aE h1 ?_
  rw[Nat.mul_assoc]
  exact dJ _ h2
noncomputable def rV(C:Cl):Prop:=∀L n w K,iI w n L→L.length≤4→(∀l∈L,l.length≤4)→(∀w' p,Fm0 w w'→w.next≤p→At w' p (.list ((jW L).map iT))→K (.ref p) w')→C OZ [.ref n] w K
inductive TuI(L:List (List Int))(n:Nat)(w₀:W)(j:Nat):List V→W→Prop
 |mk (p:Nat) (a:V) (w:W):Fm0 w₀ w→w₀.next≤p→At w p (.list ((jW (L.take j)).map iT))→TuI L n w₀ j [.ref n,.ref p,a] w
theorem TuI.fm{L:List (List Int)}{n j:Nat}{w₀ w:W}{ρ:List V}(h:TuI L n w₀ j ρ w):Fm0 w₀ w:=h.casesOn λp a w1 f1 ξ ξ=>f1
section
variable{G:List Int}{C:Cl}
theorem Mv:rV (gR G C):=λL n w K hL h4 hl k=>hL.casesOn λrs hn hrl hrs=>by
 have l3:lim=100000:=rfl
 refine⟨rfl,ok (fV (hn.add _)) ?_⟩
 refine iD (xs:=rs) (enc:=.ref) (Giv.cell λw' (f:Fm0 w w')=>f.at hn) (TuI L n w) (λξ ξ ξ h=>h.fm) (.mk _ _ _ (Fm.refl.add _) (aO _) (At.new _ _)) (λρ w' h=>h.casesOn λp a w1 f1 hp c=>k _ _ f1 hp (c.cast (by rw[hrl,bM]))) (λj x hx ρ w' h R hR=>h.casesOn λp a w1 f1 hp c=>?_)
 have jl:j<L.length:=by rw[←hrl];exact(aB.mp hx).1
 obtain⟨l,el⟩:=gat jl
 have ll:=hl l (aF el)
 have cx:=f1.at (hrs j x l hx el)
 have len:(jW (L.take j)).length≤256:=by
  have:=zY (L:=L.take j) (λm hm=>hl m (dY hm)) [[]]
  have h2:(4:Nat)^(L.take j).length≤4^4:=Nat.pow_le_pow_right (by decide) (mN h4)
  rw[bI,Nat.mul_one] at this
  exact aE this h2
 have et:jW (L.take (j+1))=zN (jW (L.take j)) l:=by unfold jW;rw[gS el,eO];rfl
 refine ok (fV c) ⟨_,Fg (ds:=(jW (L.take j)).map iT) (Giv.cell λw' (f:Fm0 w1 w')=>f.at c) (λi acc w'=>Fm0 w1 w'∧acc=(zN ((jW (L.take j)).take i) l).map iT) (λξ ξ ξ h=>h.1) (λi d hd acc w2 h R2 hR2=>?_) (λacc w2 h=>?_) _ 0 (eJ _) _ _ ⟨.refl,rfl⟩⟩
 ·obtain⟨r,hr,rfl⟩:=kW hd
  obtain⟨f2,rfl⟩:=h
  have h5:=IE (F:=(jW (L.take j)).take i) ll
  have h6:((jW (L.take j)).take i).length≤256:=mN len
  have rl:r.length≤4:=by
   have:=(rB.mp (aF hr)).1
   rw[this];exact mN h4
  refine ok (fV (f2.at cx)) (rR l .int (Giv.cell λw' f=>f.at (f2.at cx)) (λv=>iT (r++[v])) (λv=>[.int v]) (λξ ξ=>rfl) (by rw[aA];exact aE (dH (aE h5 (dJ 4 h6)) ll) (by decide)) (λv ξ w4 f4 T F t=>?_) λw4 f4=>hR2 _ _ ⟨f2.trans f4,?_⟩)
  ·refine ok (CY (as:=r.map .int) (bs:=[.int v]) (by rw[aD,aA,bI];exact aE (Nat.add_le_add_right rl 1) (by decide))) ?_
   have:=t _ .refl
   rwa [show iT (r++[v])=.tup (r.map .int++[.int v]) by show V.tup _=_;rw[aI];rfl] at this
  ·rw[gS hr,show zN ((jW (L.take j)).take i++[r]) l=zN ((jW (L.take j)).take i) l++l.map (λv=>r++[v]) by unfold zN;rw[List.flatMap_append,List.flatMap_singleton],aI,cL];rfl
 ·obtain⟨f2,rfl⟩:=h
  refine hR _ _ (.mk _ _ _ ((f1.trans f2).add _) (aE f1.next f2.next) ((At.new _ _).cast ?_))
  rw[et,aA,bM]
end
noncomputable def Rs:Fn:=⟨1,6,none,uV⟩
noncomputable def srL(L:List (List Int)):Sr:=⟨[(0,7)]::L.map mkD,[(0,7)]::L.map mkD,[],[],false,[],0⟩
structure Lok(L:List (List Int)):Prop where
 len:L.length≤4
 sub:∀l∈L,l∈iE
 ne:∀l∈L,l≠[]
noncomputable def Sc.New(sc:Sc)(w:W):Prop:=∀m,sc.In m→w.next≤m
noncomputable def sL(C:Cl):Prop:=∀L n w K,iI w n L→Lok L→(∀w' sc p,iP w' (srL L) sc→Fm0 w w'→sc.New w→w.next≤p→¬sc.In p→At w' p (.list (tk L.length))→K (.tup [.obj 0 sc.s,.ref p]) w')→C Rs [.ref n] w K
theorem CB{w:W}{n:Nat}{ds:List V}{d:V}(h:At w n (.list ds))(e:ds.getLast?=some d):jF w (.ref n) (.int (-1))=some d:=by
 show((w.get n).bind λc=>FK c (-1))=some d
 rw[h.get]
 rw[List.getLast?_eq_getElem?] at e
 have lt:=(aB.mp e).1
 show((seqIndex? (-1:Int) ds.length).bind λj=>ds[j]?)=some d
 rw[tN (by decide) (Xo (aQ (cX _) lt)).1,cE,←e,(Xo (aQ (cX _) lt)).2]
theorem GL{w:W}{n:Nat}{ds:List V}{p d:V}(h:At w n (.list (ds++[p]))):tJ w (.ref n) (.int (-1)) d=some (w.set n (.list (ds++[d]))):=by
 show((w.get n).bind (Cj w n (-1) d))=_
 rw[h.get]
 show(seqIndex? (-1:Int) (ds++[p]).length).map (λj=>w.set n (.list ((ds++[p]).set j d)))=_
 rw[tN (by decide) (by rw[aD,bI];exact cH.mpr (Nat.succ_le_succ (dP.mp (Int.NonNeg.mk (ds.length+0))))),eE]
 have:(-1+(((ds++[p]).length:Nat):Int)).toNat=ds.length:=by rw[aD,bI];simp_all +arith
 rw[this];simp
theorem RN{w:W}{n m:Nat}{d:Dm}(h:At w n (.list (d.map prV)))(hm:At w m (.list [])):jK .NotEq w (.ref n) (.ref m)=some (!d.isEmpty):=by
 show Option.map (!·) (jK .Eq w (.ref n) (.ref m))=_
 rw[rA (oQ (k:=7) d h λp ξ=>TB p) hm];cases d<;>rfl
theorem ZZ(v:Int):De [] v=[(v,v)]:=rfl
theorem Ft(d:Dm)(p:Int×Int)(v:Int):De (d++[p]) v=if p.2=v-1 then d++[(p.1,v)] else(d++[p])++[(v,v)]:=by
 unfold De
 rw[List.getLast?_concat,List.dropLast_concat]
theorem NL{l:List Int}{i:Nat}{v:Int}(h:l[i]?=some v):mkD (l.take (i+1))=De (mkD (l.take i)) v:=by unfold mkD;rw[gS h,eO];rfl
theorem Pa(d:Dm)(v:Int):(De d v).length≤d.length+1:=by
 rcases List.eq_nil_or_concat d with rfl | ⟨e,p,rfl⟩
 ·exact aO _
 ·rw[List.concat_eq_append,Ft]
  by_cases q:p.2=v-1
  ·rw[if_pos q,aD,aD];exact eQ _
  ·rw[if_neg q,aD];exact aO _
theorem RU(l:List Int):(mkD l).length≤l.length:=by
 have:∀(l:List Int) (d:Dm),(l.foldl De d).length≤d.length+l.length:=λl=>by
  induction l with
  |nil=>exact λd=>aO _
  |cons v l ih=>intro d;exact aE (ih (De d v)) (aE (Nat.add_le_add_right (Pa d v) _) (bH (eK _ _)))
 have:=this l []
 exact aE this (by show 0+l.length≤_;(simp at *;done))
theorem MV{L:List (List Int)}{j:Nat}{l:List Int}(h:L[j]?=some l):KT (srL (L.take j)) (mkD l)=srL (L.take (j+1)):=by
 unfold KT srL
 rw[gS h,aI];rfl
inductive LtI(L:List (List Int))(n:Nat)(w₀:W)(j:Nat):List V→W→Prop
 |mk (sc:Sc) (q:Nat) (a b c:V) (w:W):Fm0 w₀ w→iP w (srL (L.take j)) sc→sc.New w₀→w₀.next≤q→¬sc.In q→At w q (.list (tk j))→LtI L n w₀ j [.ref n,.obj 0 sc.s,.ref q,a,b,c] w
theorem LtI.fm{L:List (List Int)}{n j:Nat}{w₀ w:W}{ρ:List V}(h:LtI L n w₀ j ρ w):Fm0 w₀ w:=h.casesOn λξ ξ ξ ξ ξ ξ f ξ ξ ξ ξ ξ=>f
inductive MkI(n s q x p:Nat)(l:List Int)(w₀:W)(i:Nat):List V→W→Prop
 |mk (c:V) (w:W):Fm (· = p) w₀ w→At w p (.list ((mkD (l.take i)).map prV))→MkI n s q x p l w₀ i [.ref n,.obj 0 s,.ref q,.ref x,.ref p,c] w
theorem MkI.fm{n s q x i:Nat}{l:List Int}{w₀ w:W}{ρ:List V}(h:MkI n s q x w₀.next l (w₀.add (.list [])) i ρ w):Fm0 w₀ w:=h.casesOn λξ ξ f ξ=>(Fm.refl.add _).fresh f λm e=>.inr (bH e.symm)
section
variable{G:List Int}{C:Cl}
theorem New.go{w₀ w w':W}{sc sc':Sc}{σ':Sr}(h:sc.New w₀)(f:Fm0 w₀ w)(T:gU w sc w' σ' sc'):Fm0 w₀ w'∧sc'.New w₀:=
 ⟨f.fresh T.fm λn q=>.inr (h n q),λm q=>(T.cells m q).elim (h m) λz=>aE f.next z⟩
theorem QQ(j:Nat):tk (j+1)=tk j++[nv (j+1)]:=by unfold tk;rw[List.range_succ,aI];rfl
theorem Ly(j:Nat):(tk j).length=j:=by unfold tk;rw[aA,aP]
theorem iP.not_in{w:W}{σ:Sr}{sc:Sc}{m:Nat}(S:iP w σ sc)(h:w.next≤m):¬sc.In m:=λz=>by
 have no:∀{d},At w m d→False:=λq=>eF.mpr q.lt h
 rcases z with z | z | z | z | z | z
 ·exact no (z▸S.ns)
 ·exact no (z▸S.doms)
 ·exact no (z▸S.firsts)
 ·exact no (z▸S.trail)
 ·exact no (z▸S.marks)
 ·exact S.news.elim λk y=>no (z▸y.1)
theorem Qj(h1:Dl C)(h2:xC C):sL (gR G C):=λL n w K hL O k=>hL.casesOn λrs hn hrl hrs=>by
 have l3:lim=100000:=rfl
 have l4:=O.len
 refine⟨rfl,h1 _ _ _ (At.new w _) λw1 sc S hs f1 hc=>⟨rfl,?_⟩⟩
 have f1:Fm0 w w1:=(Fm.refl.add _).fresh f1 λn q=>.inr (by rw[q];exact aO _)
 have nw:sc.New w:=λm q=>(hc m q).elim (λz=>by rw[z];exact aO _) λz=>eZ z
 rw[←hs]
 have S2:=S.keep0 (Fm.refl.add (.list []))
 have c2:=At.new w1 (.list [])
 have nq:¬sc.In w1.next:=S.not_in (aO _)
 refine ok (gG S2.ns (by decide)) (h2 sc sr0 [(0,7)] (by decide) (by decide) (by decide) _ _ S2 λw3 sc3 T3=>?_)
 have g3:=New.go nw (f1.add (.list [])) T3
 have c3:=T3.fix c2 nq
 rw[show V.obj 0 sc.s=.obj 0 sc3.s by rw[T3.same]]
 refine ok (fV (g3.1.at hn)) (iD (xs:=rs) (enc:=.ref) (Giv.cell λw' (f:Fm0 w w')=>f.at hn) (LtI L n w) (λξ ξ ξ h=>h.fm) (.mk sc3 _ _ _ _ w3 g3.1 T3.at_ g3.2 f1.next c3.2 c3.1) (λρ w' h=>h.casesOn λsc q a b c w4 f S N hq nq cq=>?_) λj x hx ρ w' h R hR=>h.casesOn λsc q a b c w4 f S N hq nq cq=>?_)
 ·rw[hrl,bM] at S
  rw[hrl] at cq
  exact k w4 sc q S f N hq nq cq
 ·have jl:j<L.length:=by rw[←hrl];exact(aB.mp hx).1
  obtain⟨l,el⟩:=gat jl
  have hl:=O.sub l (aF el)
  have ll:=mZ l hl
  have cx:=f.at (hrs j x l hx el)
  refine ok (fV (cx.add _)) ?_
  refine iD (xs:=l) (enc:=.int) (Giv.cell λw' (f':Fm0 w4 w')=>f'.at cx) (MkI n sc.s q x w4.next l (w4.add (.list []))) (λξ ξ ξ h=>h.fm) (.mk _ _ .refl (At.new _ _)) (λρ w5 h=>?_) λi v hv ρ w5 h R2 hR2=>?_
  ·have f5:=h.fm
   revert f5
   refine h.casesOn λc w5 ξ c5 f5=>?_
   rw[bM] at c5
   have S5:=S.keep0 f5
   have cq5:=f5.at cq
   have dn:mkD l≠[]:=λz=>O.ne l (aF el) (uG l hl z)
   have dl:(srL (L.take j)).doms.length=j+1:=by show(L.take j |>.map mkD).length+1=_;rw[aA,cS];lia
   refine ok (fQ cq5) (ok (gG S5.ns (by decide)) (ok (iW c5) (h2 sc (srL (L.take j)) (mkD l) dn (by rw[dl];lia) (by show(srL (L.take j)).doms.length<lim;rw[dl];lia) _ _ S5 λw6 sc6 T6=>?_)))
   have g6:=New.go N (f.trans f5) T6
   have c6:=T6.fix cq5 nq
   rw[MV el] at T6
   refine ok (fQ c6.1) (ok (gZ c6.1 (by rw[Ly];lia)) ?_)
   rw[show V.obj 0 sc.s=.obj 0 sc6.s by rw[T6.same]]
   have fq:∀d:hW,Fm (· = q) w6 (w6.set q d):=λd=>(Fm.refl (M:=(· = q))).set (.inl rfl) d
   refine hR _ _ (.mk sc6 q _ _ _ _ (g6.1.fresh (fq _) λm e=>.inr (e▸hq)) (T6.at_.keep (fq _) λm hm e=>c6.2 (e▸hm)) g6.2 hq c6.2 ((c6.1.put _).cast ?_))
   rw[QQ,dl]
  ·refine h.casesOn λc w5 f5 c5=>?_
   have dl:=RU (l.take i)
   have dl2:(l.take i).length≤4:=mN ll
   have put:∀(w':W),Fm0 w5 w'→∀d,d=De (mkD (l.take i)) v→Fm (· = w4.next) (w4.add (.list [])) (w'.set w4.next (.list (d.map prV)))∧At (w'.set w4.next (.list (d.map prV))) w4.next (.list ((mkD (l.take (i+1))).map prV)):=λw' f' d e =>
    ⟨(f5.trans f'.up).set (.inl rfl) _,by rw[NL hv,←e];exact(f'.at c5).put _⟩
   have fa:Fm0 w5 (w5.add (.list [])):=Fm.refl.add _
   have c5a:=fa.at c5
   refine ok (RN c5a (At.new _ _)) ?_
   rcases List.eq_nil_or_concat (mkD (l.take i)) with e | ⟨d,p,e⟩
   ·rw[e] at c5 c5a put ⊢
    have z:=put _ fa [(v,v)] rfl
    exact ok (fQ c5a) (ok (fQ c5a) (hR2 _ _ (.mk _ _ z.1 z.2)))
   ·rw[List.concat_eq_append] at e
    rw[e] at dl c5 c5a put ⊢
    rw[aI] at c5a
    rw[aD,bI] at dl
    have la:((d.map prV++[prV p]).getLast?)=some (prV p):=List.getLast?_concat
    have ne:(!(d++[p]).isEmpty)=true:=by cases d<;>rfl
    rw[Ft] at put
    refine bT ne (ok (CB c5a la) (ok (DX (w:=w5)) (dB (λq1=>ok (CB c5a la) (ok (GL c5a) ?_)) λq1=>ok (fQ c5a) (ok (fQ c5a) (ok (gZ c5a (by rw[aD,aA,aA,bI];lia)) ?_)))))
    ·rw[if_pos q1] at put
     have z:=put _ fa _ rfl
     rw[aI] at z
     exact hR2 _ _ (.mk _ _ z.1 z.2)
    ·rw[if_neg q1] at put
     have z:=put _ fa _ rfl
     rw[aI,aI] at z
     exact hR2 _ _ (.mk _ _ z.1 z.2)
end
noncomputable def JH:Fn:=⟨1,14,none,gV⟩
noncomputable def yW(C:Cl):Prop:=∀(i:Int) w K,(∀w' Q L nl a b c,Fm0 w w'→Ctx Q L→iI w' nl L→Wan w' a b c Q.ws Q.los Q.his→K (.tup [.ref nl,.ref a,.ref b,.ref c]) w')→C JH [.int i] w K
noncomputable def yI(m v:Int):Bool:=decide ((m.fdiv (2^(v-1).toNat)).fmod 2=1)
theorem MM:∀m:Nat,m<16→m≠0→(kN 1 4).filter (yI m)∈iE∧(kN 1 4).filter (yI m)≠[]:=by decide +kernel
theorem Jn:∀m:Nat,m<8→m≠0→(kN 1 3).filter (yI m)∈iE∧(kN 1 3).filter (yI m)≠[]:=by decide +kernel
noncomputable def Top(t:Nat):Prop:=t=3∨t=4
theorem nG{x:Int}{m:Int}(h:0<m):0≤x.fmod m∧x.fmod m<m:=⟨Int.fmod_nonneg_of_pos x h,Int.fmod_lt_of_pos x h⟩
theorem RV{t:Nat}{x:Int}(h:Top t):(kN 1 t).filter (yI (1+x.fmod (2^t-1)))∈iE∧(kN 1 t).filter (yI (1+x.fmod (2^t-1)))≠[]:=by
 have nat:∀{M:Int},0<M→∃m:Nat,(m:Int)=1+x.fmod M∧m≠0∧(m:Int)<M+1:=λ{M} hM=>by
  have:=nG (x:=x) hM
  have p:(0:Int)<1+x.fmod M:=fH (by decide) (fP this.1 1)
  exact⟨_,dA (fN p),cP (Int.pos_iff_toNat_pos.mp p),by rw[dA (fN p),Int.add_comm];exact Int.add_lt_add_right this.2 1⟩
 rcases h with rfl | rfl
 ·obtain⟨m,e,n0,lt⟩:=nat (M:=2^3-1) (by decide)
  rw[←e];exact Jn m (cH.mp lt) n0
 ·obtain⟨m,e,n0,lt⟩:=nat (M:=2^4-1) (by decide)
  rw[←e];exact MM m (cH.mp lt) n0
theorem IU{w:W}{j:Int}{k:Nat}(e:j=(k:Nat))(h:k≤100):Db .Pow w (.int 2) (.int j)=some (.int (2^k),w):=by
 subst e
 show(if Operator.Pow=.Pow∧0≤((k:Nat):Int)∧((k:Nat):Int)≤1000∧(2:Int).natAbs<2^64 then some (V.int (2^((k:Nat):Int).toNat),w) else none)=_
 rw[if_pos ⟨rfl,bU k,dP.mpr (aE h (by decide)),by decide⟩,dO]
inductive ScA(i many T:Int)(n l:Nat)(w₀:W)(j:Nat):List V→W→Prop
 |mk (x:Int) (L:List (List Int)) (rs:List Nat) (d5 d6 d7 d8 d9 d10 d11 d12 d13:V) (w:W):Fm0 w₀ w→At w n (.list [.int x])→L.length=j→(∀m∈L,m∈iE)→(∀m∈L,m≠[])→At w l (.list (rs.map .ref))→rs.length=L.length →
  (∀(k r:Nat) m,rs[k]?=some r→L[k]?=some m→At w r (.list (m.map .int))∧r≠n∧r≠l)→ScA i many T n l w₀ j [.int i,.ref n,.int many,.int T,.ref l,d5,d6,d7,d8,d9,d10,d11,d12,d13] w
section
variable{G:List Int}{C:Cl}{w w₀:W}
theorem UU(i many:Int)(n:Nat)(d3 d4 d5 d6 d7 d8 d9 d10 d11 d12 d13:V):GoS (stW G C (gH 2 gV)) [.int i,.ref n,.int many,d3,d4,d5,d6,d7,d8,d9,d10,d11,d12,d13] w
  (λρ w'=>∃(T:Int) (t:Nat),Top t∧T=(t:Nat)∧ρ=[.int i,.ref n,.int many,.int T,d4,d5,d6,d7,d8,d9,d10,d11,d12,d13]∧w'=w):=λK2 kk =>
 dB (λξ=>kk _ _ ⟨4,4,.inr rfl,rfl,rfl,rfl⟩) λξ=>kk _ _ ⟨3,3,.inl rfl,rfl,rfl,rfl⟩
theorem Mc(h1:jX C){i many T:Int}{top n l:Nat}(ht:Top top)(eT:T=(top:Nat))(hm:2≤many∧many≤4)(hn:w₀.next≤n)(hl:w₀.next≤l)(nl:n≠l){ρ:List V}(h:ScA i many T n l w₀ 0 ρ w) :
  GoS (stW G C (gH 4 gV)) ρ w (ScA i many T n l w₀ many.toNat):=λK2 kk=>by
 have l3:lim=100000:=rfl
 refine h.casesOn (motive:=λρ w ξ=>ScA i many T n l w₀ 0 ρ w→stW G C (gH 4 gV) ρ w K2) (λx L rs d5 d6 d7 d8 d9 d10 d11 d12 d13 w1 f1 c1 e1 sub ne cl hrl hrs h=>?_) h
 refine bT (b:=jC 0 many) (nQ ⟨by decide,by decide,aS (by decide) hm.1,aS hm.2 (by decide)⟩) ?_
 refine iD (xs:=kN 0 many.toNat) (enc:=.int) (Giv.rng (λξ=>True) _ _) (ScA i many T n l w₀) (λξ ξ ξ ξ=>trivial) h (λρ w' h=>kk _ _ (by rw[kM] at h;exact h)) λj y hy ρ w' h R hR=>h.casesOn λx L rs d5 d6 d7 d8 d9 d10 d11 d12 d13 w1 f1 c1 e1 sub ne cl hrl hrs=>?_
 have jl:j<many.toNat:=by have:=(aB.mp hy).1;rwa [kM] at this
 have t4:top≤4:=by rcases ht with rfl | rfl<;>decide
 have mp:(0:Int)<2^top-1∧(2:Int)^top-1<1000:=by rcases ht with rfl | rfl<;>decide
 refine ok (IU eT (aE t4 (by decide))) (h1 n x _ w1 _ c1 mp.1 mp.2 λw2 c2 f2=>?_)
 have cl2:=f2.keep _ _ (λe=>nl e.symm) cl
 refine ok (fQ cl2) ?_
 refine bT (b:=jC 1 (T+1)) (nQ ⟨by decide,by decide,aS (by decide) (dQ (eT▸bU top) 1),aS (dQ (eT▸dP.mpr t4) 1) (by decide)⟩) ?_
 refine gM (kN 1 top) .int (show Giv (Fm0 w2) (lP 1 (T+1-1).toNat) _ by rw[show(T+1-1).toNat=top from(congrArg Int.toNat ((Int.add_sub_cancel T 1).trans eT)).trans (dO top)];exact Giv.rng _ _ _) (yI (1+x.fmod (2^top-1))) .int (λv=>[.int v]) (λξ ξ=>rfl) (by rw[kM];exact aE (bH (eJ top)) (aE t4 (by decide))) (λv hv w3 f3 T F tt ff=>?_) λw3 f3=>?_
 ·obtain⟨k,hk,rfl⟩:=bL.mp hv
  have hk:=cK.mp hk
  have ei:1+(k:Int)-1=k:=Int.add_comm 1 (k:Int)▸Int.add_sub_cancel (k:Int) 1
  have ek:(1+(k:Int)-1).toNat=k:=ei.symm▸dO k
  have hp:(2:Int)^k≠0∧((2:Int)^k).natAbs<1000000:=(by decide:∀k<4,(2:Int)^k≠0∧((2:Int)^k).natAbs<1000000) k (aM hk t4)
  refine ok (IU (k:=k) ei (aE (bW (aM hk t4)) (by decide))) (ok (JL hp.1 hp.2) (ok (DX (w:=w3)) ?_))
  have eb:yI (1+x.fmod (2^top-1)) (1+(k:Int))=decide (((1+x.fmod (2^top-1)).fdiv (2^k)).fmod 2=1):=by unfold yI;rw[ek]
  rw[eb] at tt ff
  exact bB (λq=>tt _ .refl q) λq=>ff _ .refl q
 ·have z:=RV (x:=x) ht
  have f23:Fm (· = n) w1 (w3.add (.list (((kN 1 top).filter (yI (1+x.fmod (2^top-1)))).map .int))):=f2.trans (f3.add _).up
  have cl3:=f23.keep _ _ (λe=>nl e.symm) cl
  refine ok (fQ cl3) (ok (gZ cl3 (by rw[aA,hrl,e1];exact aM jl (aE (Int.toNat_le (n:=4).mpr hm.2) (by decide)))) ?_)
  have new:=At.new w3 (.list (((kN 1 top).filter (yI (1+x.fmod (2^top-1)))).map .int))
  have nx:w3.next≠n∧w3.next≠l:=⟨cP (aM c2.lt f3.next),cP (aM cl2.lt f3.next)⟩
  refine hR _ _ (.mk _ (L++[(kN 1 top).filter (yI (1+x.fmod (2^top-1)))]) (rs++[w3.next]) _ _ _ _ _ _ _ _ _ _ ((f1.fresh f23 λm e=>.inr (e▸hn)).set (.inr hl) _) (((f3.add _).at c2).set nl _) (by rw[aD,e1];rfl) (λm hm=>?_) (λm hm=>?_) (by rw[aI];exact cl3.put _) (by rw[aD,aD,hrl];rfl) λk r m hk hm=>?_)
  ·rcases bQ.mp hm with hm | hm
   ·exact sub m hm
   ·rw[aG.mp hm];exact z.1
  ·rcases bQ.mp hm with hm | hm
   ·exact ne m hm
   ·rw[aG.mp hm];exact z.2
  ·by_cases q:k<rs.length
   ·rw[aJ q] at hk
    rw[aJ (by exact aM q (bH hrl))] at hm
    obtain⟨a,b,c⟩:=hrs k r m hk hm
    exact⟨(f23.keep _ _ b a).set c _,b,c⟩
   ·have hi2:k=rs.length:=mH hk q
    subst hi2
    rw[bP (aO _),eM] at hk
    rw[bP (bH hrl.symm),hrl,eM] at hm
    obtain rfl:w3.next=r:=Option.some.inj hk
    rw[←Option.some.inj hm]
    exact⟨new.set nx.2 _,nx⟩
structure Cnt(ws los his:List Int)(j:Nat):Prop where
 l1:ws.length=los.length
 l2:ws.length=his.length
 few:ws.length≤j
 nodup:ws.Nodup
 pos:∀x∈los,0≤x
 vals:∀v∈ws,v∈wE
 le:∀(j:Nat) l h,los[j]?=some l→his[j]?=some h→l≤h
theorem Cnt.snoc{ws los his:List Int}{j:Nat}{v lo hi:Int}(h:Cnt ws los his j)(hn:v∉ws)(hv:v∈wE)(h0:0≤lo)(hl:lo≤hi):Cnt (ws++[v]) (los++[lo]) (his++[hi]) (j+1) where
 l1:=by rw[aD,aD,h.l1];rfl
 l2:=by rw[aD,aD,h.l2];rfl
 few:=by have:=h.few;rw[aD,bI];simp[*]
 nodup:=dI.mpr ⟨h.nodup,by simp,λa ha b hb e=>hn (by rw[←aG.mp hb,←e];exact ha)⟩
 pos x hx:=(bQ.mp hx).elim (h.pos x) λz=>by rw[aG.mp z];exact h0
 vals x hx:=(bQ.mp hx).elim (h.vals x) λz=>by rw[aG.mp z];exact hv
 le k l m h1 h2:=by
  have e:=h.l1.symm.trans h.l2
  by_cases q:k<los.length
  ·rw[aJ q] at h1
   rw[aJ (e▸q)] at h2
   exact h.le k l m h1 h2
  ·have:=(aB.mp h1).1
   rw[aD,bI] at this
   obtain rfl:k=los.length:=eV (eG this) (dM.mp q)
   rw[cN] at h1
   rw[e,cN] at h2
   rw[←Option.some.inj h1,←Option.some.inj h2];exact hl
inductive ScB(i many T:Int)(n l a b c:Nat)(w₀:W)(j:Nat):List V→W→Prop
 |mk (x:Int) (ws los his:List Int) (d5 d6 d7 d11 d12 d13:V) (w:W):Fm (λm=>m=n∨m=a∨m=b∨m=c) w₀ w→At w n (.list [.int x])→Cnt ws los his j→Wan w a b c ws los his→ScB i many T n l a b c w₀ j [.int i,.ref n,.int many,.int T,.ref l,d5,d6,d7,.ref a,.ref b,.ref c,d11,d12,d13] w
theorem IZ{v:Int}(h:0≤v∧v<6):v∈wE:=IY ⟨h.1,Int.le_of_lt_add_one h.2⟩
theorem Mb(h1:jX C){i many T:Int}{n l a b c:Nat}(hT:T=3∨T=4)(na:n≠a)(nb:n≠b)(nc:n≠c)(ab:a≠b)(ac:a≠c)(bc:b≠c){ρ:List V}(h:ScB i many T n l a b c w₀ 0 ρ w) :
  GoS (stW G C (gH 6 gV)) ρ w λρ w=>∃j,j≤3∧ScB i many T n l a b c w₀ j ρ w:=λK2 kk=>by
 refine h.casesOn (motive:=λρ w ξ=>ScB i many T n l a b c w₀ 0 ρ w→stW G C (gH 6 gV) ρ w K2) (λx ws los his d5 d6 d7 d11 d12 d13 w1 f1 c1 Ct Z h=>?_) h
 refine h1 n x 3 w1 _ c1 (by decide) (by decide) λw2 c2 f2=>?_
 have z3:=nG (x:=x) (m:=3) (by decide)
 obtain⟨N,hN⟩:∃N:Int,N=x.fmod 3:=⟨_,rfl⟩
 rw[←hN] at z3 ⊢
 have n3:(1+N).toNat≤3:=Int.toNat_le.mpr (fP (Int.le_of_lt_add_one (show N<2+1 from z3.2)) 1)
 have old:∀{m:Nat} {d:hW},m≠n→At w1 m d→At w2 m d:=λq k=>f2.keep _ _ q k
 have Z2:Wan w2 a b c ws los his:=⟨old na.symm Z.ws,old nb.symm Z.los,old nc.symm Z.his⟩
 refine bT (b:=jC 0 (1+N)) (nQ ⟨by decide,by decide,aS (by decide) (fP z3.1 1),aS (fP (fN z3.2) 1) (by decide)⟩) ?_
 refine iD (xs:=kN 0 (1+N).toNat) (enc:=.int) (Giv.rng (λξ=>True) _ _) (ScB i many T n l a b c w₀) (λξ ξ ξ ξ=>trivial) (.mk _ _ _ _ _ _ _ _ _ _ w2 (f1.trans (f2.weak λm e=>.inl e)) c2 Ct Z2) (λρ w' h=>kk _ _ ⟨_,by rw[kM];exact n3,h⟩) λj y hy ρ w' h R hR=>h.casesOn λx ws los his d5 d6 d7 d11 d12 d13 w1 f1 c1 Ct Z=>?_
 have jl:j<(1+N).toNat:=by have:=(aB.mp hy).1;rwa [kM] at this
 have few:=Ct.few
 refine h1 n x (T+2) w1 _ c1 (by rcases hT with rfl | rfl<;>decide) (by rcases hT with rfl | rfl<;>decide) λw2 c2 f2=>h1 n _ 3 w2 _ c2 (by decide) (by decide) λw3 c3 f3=>h1 n _ 3 w3 _ c3 (by decide) (by decide) λw4 c4 f4=>?_
 have f14:=f2.trans (f3.trans f4)
 have old:∀{m:Nat} {d:hW},m≠n→At w1 m d→At w4 m d:=λq k=>f14.keep _ _ q k
 have Z4:Wan w4 a b c ws los his:=⟨old na.symm Z.ws,old nb.symm Z.los,old nc.symm Z.his⟩
 have f4w:Fm (λm=>m=n∨m=a∨m=b∨m=c) w₀ w4:=f1.trans (f14.weak λm e=>.inl e)
 have zv:=nG (x:=x) (m:=T+2) (by rcases hT with rfl | rfl<;>decide)
 have zl:=nG (x:=x.fdiv (T+2)) (m:=3) (by decide)
 have zm:=nG (x:=(x.fdiv (T+2)).fdiv 3) (m:=3) (by decide)
 refine ok (nS Z4.ws) (nB (λq=>?_) λq=>hR _ _ (.mk _ _ _ _ _ _ _ _ _ _ w4 f4w c4 ⟨Ct.l1,Ct.l2,dN few,Ct.nodup,Ct.pos,Ct.vals,Ct.le⟩ Z4))
 have sh:∀{m:List Int},ws.length=m.length→(m.map V.int).length<lim:=λe=>vD (aQ (bH e.symm) (aQ few (aM jl (aE n3 (by decide)))))
 have ap:∀{n:Nat} {xs:List Int} {x:Int} {w:W},At w n (.list (xs.map .int))→At (w.set n (.list (xs.map .int++[.int x]))) n (.list ((xs++[x]).map .int)):=λh=>(h.put _).cast (by rw[aI];rfl)
 have b1:=Z4.los.set ab.symm (.list (ws.map .int++[.int (x.fmod (T+2))]))
 have c1':=(Z4.his.set ac.symm (.list (ws.map .int++[.int (x.fmod (T+2))]))).set bc.symm (.list (los.map .int++[.int ((x.fdiv (T+2)).fmod 3)]))
 refine ok (fQ Z4.ws) (ok (fQ Z4.ws) (ok (gZ Z4.ws (sh rfl)) (ok (fQ b1) (ok (fQ b1) (ok (gZ b1 (sh Ct.l1)) (ok (fQ c1') (ok (fQ c1') (ok (gZ c1' (sh Ct.l2)) ?_))))))))
 exact hR _ _ (.mk _ _ _ _ _ _ _ _ _ _ _ (((f4w.set (.inl (.inr (.inl rfl))) _).set (.inl (.inr (.inr (.inl rfl)))) _).set (.inl (.inr (.inr (.inr rfl)))) _) (((c4.set na _).set nb _).set nc _)
  (Ct.snoc q (IZ ⟨zv.1,fH zv.2 (by rcases hT with rfl | rfl<;>decide)⟩) zl.1 (by simp +arith [*])) ⟨((ap Z4.ws).set ab _).set ac _,(ap b1).set bc _,ap c1'⟩)
theorem sc0(i:Int)(ds:List V):GoS (stW G C (gH 0 gV)) (.int i::ds) w (λρ w'=>ρ=(V.int i::ds).set 1 (.ref w.next)∧w'=w.add (.list [.int i])):=λK2 kk=>kk _ _ ⟨rfl,rfl⟩
theorem sc1(h1:jX C)(i:V)(n:Nat)(x:Int)(ds:List V)(c1:At w n (.list [.int x])):GoS (stW G C (gH 1 gV)) (i::.ref n::ds) w (λρ w'=>∃M:Int,M=2+x.fmod 3∧ρ=(i::V.ref n::ds).set 2 (.int M)∧At w' n (.list [.int (x.fdiv 3)])∧Fm (· = n) w w'):=λK2 kk =>
 h1 n x 3 _ _ c1 (by decide) (by decide) λw2 c2 f2=>kk _ _ ⟨_,rfl,rfl,c2,f2⟩
theorem sc3(ρ:List V):GoS (stW G C (gH 3 gV)) ρ w (λρ' w'=>ρ'=ρ.set 4 (.ref w.next)∧w'=w.add (.list [])):=λK2 kk=>kk _ _ ⟨rfl,rfl⟩
theorem sc5(ρ:List V):GoS (stW G C (gH 5 gV)) ρ w (λρ' w'=>ρ'=((ρ.set 8 (.ref w.next)).set 9 (.ref (w.next+1))).set 10 (.ref (w.next+2))∧w'=((w.add (.list [])).add (.list [])).add (.list [])):=λK2 kk=>kk _ _ ⟨rfl,rfl⟩
theorem Ql(h1:jX C):yW (gR G C):=λi w K k=>by
 refine⟨rfl,?_⟩
 show bkW G C (iU 0 gV) _ _ _
 refine gP rfl (sc0 i _) λρ w1 zz=>?_
 obtain⟨e1,e2⟩:=zz
 subst e1 e2
 refine gP rfl (sc1 h1 _ w.next i _ (At.new w (.list [.int i]))) λρ w2 zz=>?_
 obtain⟨M,hM,e,c2,f2⟩:=zz
 subst e
 have z3:=nG (x:=i) (m:=3) (by decide)
 have m4:2≤M∧M≤4:=hM▸⟨Int.le_add_of_nonneg_right z3.1,fP (Int.le_of_lt_add_one (show i.fmod 3<2+1 from z3.2)) 2⟩
 have f2:Fm0 w w2:=(Fm.refl.add _).fresh f2 λm e=>.inr (bH e.symm)
 have l2:=c2.lt
 refine gP rfl (UU i M w.next _ _ _ _ _ _ _ _ _ _ _) λρ w' zz=>?_
 obtain⟨T,t,ht,eT,hρ,hw⟩:=zz
 subst hρ
 subst hw
 refine gP rfl (sc3 _) λρ w3 zz=>?_
 obtain⟨e1,e2⟩:=zz
 subst e1 e2
 have hT:T=3∨T=4:=ht.imp (λz=>by rw[eT,z];rfl) λz=>by rw[eT,z];rfl
 refine gP rfl (Mc h1 ht eT (w₀:=w) (n:=w.next) (l:=w'.next) m4 (aO _) f2.next (bG l2) (.mk _ [] [] _ _ _ _ _ _ _ _ _ _ (f2.add _) (c2.add _) rfl (λξ h=>nomatch h) (λξ h=>nomatch h) (At.new _ _) rfl λk r m h=>nomatch h)) λρ w3 h=>?_
 refine h.casesOn λx L rs d5 d6 d7 d8 d9 d10 d11 d12 d13 w3 f3 c3 e3 sub ne cl hrl hrs=>?_
 refine gP rfl (sc5 _) λρ w5 zz=>?_
 obtain⟨e1,e2⟩:=zz
 subst e1 e2
 have ln:=c3.lt
 have ll:=cl.lt
 refine gP rfl (Mb h1 hT (n:=w.next) (l:=w'.next) (a:=w3.next) (b:=w3.next+1) (c:=w3.next+2) (by exact bG ln) (by exact bG (bD ln)) (by exact bG (bD (bD ln))) (by exact bG (cV w3.next)) (by exact bG (bD (cV w3.next))) (by exact bG (cV (w3.next+1)))
  (.mk _ [] [] [] _ _ _ _ _ _ _ .refl (((c3.add _).add _).add _) ⟨rfl,rfl,aO _,List.nodup_nil,(λξ h=>nomatch h),(λξ h=>nomatch h),λj l h e=>nomatch e⟩ ⟨((At.new w3 (.list [])).add (.list [])).add (.list []),(At.new (w3.add (.list [])) (.list [])).add (.list []),At.new ((w3.add (.list [])).add (.list [])) (.list [])⟩)) λρ w7 zz=>?_
 obtain⟨j,hj,h⟩:=zz
 refine h.casesOn λx ws los his d5 d6 d7 d11 d12 d13 w7 f7 c7 Ct Z=>?_
 have few:=Ct.few
 have f6:Fm0 w3 (((w3.add (.list [])).add (.list [])).add (.list [])):=((Fm.refl.add _).add _).add _
 have n2:=f2.next
 have n3:=f3.next
 have up:∀{m:Nat} {d:hW},At w3 m d→m≠w.next→At w7 m d:=λq e=>f7.keep _ _ (λz=>z.elim e λz=>z.elim (bG q.lt) λz=>z.elim (bG (bD q.lt)) (bG (bD (bD q.lt)))) (f6.at q)
 refine k w7 ⟨L.length,ws,los,his⟩ L _ _ _ _ ((f3.trans f6).fresh f7 λm z=>.inr (z.elim (λz=>bH z.symm) λz=>aE n3 (z.elim (λz=>bH z.symm) λz=>z.elim (λz=>by rw[z];exact eQ _) λz=>by rw[z];exact dG _ 2))) ⟨⟨⟨⟨?_,?_⟩,Ct.l1,Ct.l2,?_,Ct.nodup,Ct.pos⟩,Ct.vals,Ct.le⟩,rfl,sub,ne⟩ (.mk rs (up cl (cP l2)) hrl λk r m h1 h2=>up (hrs k r m h1 h2).1 (hrs k r m h1 h2).2.1) Z
 ·exact e3▸(Int.le_toNat (aS (by decide) m4.1)).mpr m4.1
 ·exact e3▸Int.toNat_le.mpr m4.2
 ·show ws.length≤3
  exact aE few hj
end
noncomputable def liP(l:List Int):PyData:=.list (l.map .int)
theorem Io(a b:List Int):PyData.eqv (liP a) (liP b)=decide (a=b):=kA kT a b
theorem Mo{w:W}:∀{rs:List Nat} {L:List (List Int)},rs.length=L.length→(∀(k r:Nat) l,rs[k]?=some r→L[k]?=some l→At w r (.list (l.map .int)))→rds (rd w 7) (rs.map .ref)=some (L.map liP)
 |[],[],_,_=>rfl
 |r::rs,l::L,e,h=>by
  show((rd w 7 (.ref r)).bind λp=>(rds (rd w 7) (rs.map .ref)).map (p::·))=_
  rw[Mo (eY.inj e) λk=>h (k+1),oQ (k:=6) l (h 0 r l rfl rfl) λi ξ=>lZ i];rfl
theorem IS{w:W}{n:Nat}{L:List (List Int)}(h:iI w n L):rd w 8 (.ref n)=some (.list (L.map liP)):=h.casesOn λrs a b c=>by
 show((w.get n).bind λc=>hW.casesOn (motive:=λξ=>Option PyData) c (λds=>(rds (rd w 7) ds).map .list) (λξ=>none) λξ=>none)=_
 rw[a.get]
 show(rds (rd w 7) (rs.map .ref)).map PyData.list=_
 rw[Mo b c];rfl
theorem ZJ{w:W}{m n:Nat}{a b:List (List Int)}(h1:iI w m a)(h2:iI w n b):jK .Eq w (.ref m) (.ref n)=some (decide (a=b)):=rN (IS h1) (IS h2) (kA Io a b)
theorem NG{w:W}{m n:Nat}{a b:List (List Int)}(h1:iI w m a)(h2:iI w n b):jK .NotEq w (.ref m) (.ref n)=some (!decide (a=b)):=uM (IS h1) (IS h2) (kA Io a b)
noncomputable def BE(L:List (List Int))(e:Te):List (List Int):=L.set (e.x-1) ((L.getD (e.x-1) []).filter (hX 3 e.lit.2.2))
inductive Zg(Q:Cq)(L:List (List Int)):Te→Prop
 |mk (k:Nat) (l:List Int) (v:Int) (ls:List Lit):L[k]?=some l→v∈l→Ds Q L k v ls→ls.length<lim→Zg Q L (teK k l v ls)
structure Trl(Q:Cq)(L:List (List Int))(es:List Te)(L':List (List Int)):Prop where
 fin:es.foldl BE L=L'
 ent:∀(j:Nat) e,es[j]?=some e→Zg Q ((es.take j).foldl BE L) e
theorem IB{L:List (List Int)}{k:Nat}{l:List Int}{v:Int}{ls:List Lit}(h:L[k]?=some l):BE L (teK k l v ls)=L.set k (l.filter (hX 3 v)):=by
 show L.set k ((L.getD k []).filter (hX 3 v))=_
 rw[hG h]
theorem Run.trl{Q:Cq}{σ σ':Sr}{L L':List (List Int)}(R:Run Q σ L σ' L'):∃es,σ'.trail=σ.trail++es∧Trl Q L es L':=by
 induction R with
 |nil=>exact⟨[],(cD _).symm,rfl,λj e h=>nomatch h⟩
 |snoc σ' L' k l v ls R hk hv hn J hl ih =>
  obtain⟨es,e1,T⟩:=ih
  refine⟨es++[teK k l v ls],?_,?_,λj e h=>?_⟩
  ·show σ'.trail++_=_
   rw[e1,bV]
  ·rw[eO,T.fin];exact IB hk
  ·by_cases q:j<es.length
   ·rw[aJ q] at h
    rw[List.take_append_of_le_length (bW q)]
    exact T.ent j e h
   ·have hj:j=es.length:=mH h q
    subst hj
    rw[cN] at h
    rw[←Option.some.inj h,List.take_left,T.fin]
    exact .mk k l v ls hk hv J hl
theorem EI(L:List (List Int))(es:List Te):(es.foldl BE L).length=L.length:=by
 induction es generalizing L with
 |nil=>rfl
 |cons e es ih=>rw[List.foldl_cons,ih];exact bR
theorem GK{n:Nat}{es:List Te}:∀{L:List (List Int)},(∀l∈L,l.length<n)→∀l∈es.foldl BE L,l.length<n:=by
 induction es with
 |nil=>exact λh=>h
 |cons e es ih =>
  intro L h
  refine ih λl hl=>?_
  rcases eR hl with hl | rfl
  ·exact h l hl
  ·by_cases q:e.x-1<L.length
   ·exact aQ (bZ _ _) (by rw[hG (oM q)];exact h _ (List.getElem_mem _))
   ·unfold BE at hl
    rw[List.set_eq_of_length_le (dM.mp q)] at hl
    exact h _ hl
theorem IM{t:Lit}{r:List Int}(h:LW r.length t):yA t r=true↔Say t r:=by
 obtain⟨k,e,lt,_⟩:=h
 have ek:(t.1-1).toNat=k:=by rw[e];(simp at *;done)
 unfold yA Say
 rw[ek,hG (aC lt)]
 exact⟨λh=>⟨_,aC lt,h⟩,λ⟨v,h1,h2⟩=>by rw[aC lt] at h1;rw[Option.some.inj h1];exact h2⟩
theorem yT{t:Lit}{L:List (List Int)}(h:Hol t L):LW L.length t:=by
 obtain⟨k,d,e,s,h1,_⟩:=h
 exact⟨k,e,(aB.mp h1).1,s⟩
theorem TV{t:Lit}{L:List (List Int)}(h:Hol t L):FS L t=true:=by
 obtain⟨k,d,e,s,h1,h2⟩:=h
 unfold FS
 rw[show(t.1-1).toNat=k by rw[e];(simp at *;done),hG h1]
 exact cC.mpr h2
noncomputable def Gq:Fn:=⟨5,11,none,iV⟩
structure Rws(Q:Cq)(rows:List (List Int)):Prop where
 all:∀r∈rows,r.length=Q.n∧lD Q r
 few:rows.length<1000
noncomputable def qL(C:Cl):Prop:=∀Q σ sc L es tr nl nr rows L' w K,Q.Ok→iP w σ sc→σ.trail=tr++es→Trl Q L es L'→L.length=Q.n→(∀l∈L,l.length<100)→iI w nl L→At w nr (.list (rows.map iT))→Rws Q rows →
 (∀w' p,Fm0 w w'→w.next≤p→iI w' p L'→K (.ref p) w')→C Gq [.obj 0 sc.s,nv tr.length,.ref nl,.ref nr,.int 1] w K
inductive LsP(w:W)(p k:Nat)(L:List (List Int))(r:Nat)(l:List Int):Prop | mk (ds:List V):At w p (.list ds)→k<ds.length→iI (w.set p (.list (ds.set k (.ref r)))) p (L.set k l)→LsP w p k L r l
theorem iI.put{w:W}{p k r:Nat}{L:List (List Int)}{l:List Int}(h:iI w p L)(hk:k<L.length)(hr:At w r (.list (l.map .int)))(rp:r≠p):LsP w p k L r l:=h.casesOn λrs a b c=>by
 have ne:∀{q:Nat} {m:List Int},At w q (.list (m.map .int))→q≠p:=λ{q m} z e=>by
  subst e
  have:=Option.some.inj ((fQ a).symm.trans (fQ z))
  cases rs with
  |nil=>rw[List.length_nil] at b;exact bG (Nat.zero_lt_of_lt hk) b
  |cons r rs=>cases m with
   |nil=>exact nomatch this
   |cons i m=>exact nomatch congrArg kY (List.cons.inj this).1
 refine .mk (rs.map .ref) a (by rw[aA];simp +arith [*]) (.mk (rs.set k r) ((a.put _).cast eW.symm) (by rw[bR,bR];exact b) λi q m hi hm=>?_)
 by_cases e:k=i
 ·subst e
  rw[cJ (by simp +arith [*])] at hi hm
  rw[←Option.some.inj hi,←Option.some.inj hm];exact hr.set rp _
 ·rw[cB e] at hi hm
  exact(c i q m hi hm).set (ne (c i q m hi hm)) _
theorem Jp{w:W}{n:Nat}{l:List V}{i:Int}{j:Nat}{d:V}(h:At w n (.list l))(e:i=(j:Nat))(hi:j<l.length):tJ w (.ref n) (.int i) d=some (w.set n (.list (l.set j d))):=by subst e;exact jN h hi
theorem CH{w:W}{n k:Nat}{l:List V}(h:At w n (.list l))(hk:k≤l.length):Tl w (.ref n) (nv k)=some (l.drop k):=by
 show(iS w (.ref n)).bind (λds=>(kY (nv k)).bind λk=>if 0≤k∧k≤ds.length then some (ds.drop k.toNat) else none)=_
 rw[fQ h,cE]
 show(if 0≤((k:Nat):Int)∧((k:Nat):Int)≤l.length then some (l.drop ((k:Nat):Int).toNat) else none)=_
 rw[if_pos ⟨bU k,dP.mpr hk⟩,dO]
theorem RQ{w:W}{i j:Int}:jK .NotEq w (.int i) (.int j)=some (!decide (i=j)):=uM (lZ _) (lZ _) (kT i j)
inductive FoI(Q:Cq)(s m nl nr p c:Nat)(L:List (List Int))(es:List Te)(w₀:W)(j:Nat):List V→W→Prop
 |mk (d6 d7 d8 d9 d10:V) (w:W):Fm0 w₀ w→iI w p ((es.take j).foldl BE L)→At w c (.list (es.map teV))→FoI Q s m nl nr p c L es w₀ j [.obj 0 s,nv m,.ref nl,.ref nr,.int 1,.ref p,d6,d7,d8,d9,d10] w
theorem FoI.c{Q:Cq}{s m nl nr p c:Nat}{L:List (List Int)}{es:List Te}{w₀ w:W}{j:Nat}{ρ:List V}(h:FoI Q s m nl nr p c L es w₀ j ρ w):At w c (.list (es.map teV)):=h.casesOn λξ ξ ξ ξ ξ ξ ξ ξ h=>h
section
variable{G:List Int}{C:Cl}{w w₀:W}
theorem OU(s m nl nr:Nat)(d5 d6 d7 d8 d9 d10:V){L:List (List Int)}(hL:iI w nl L)(hl:L.length≤4):GoS (stW G C (gH 0 iV)) [.obj 0 s,nv m,.ref nl,.ref nr,.int 1,d5,d6,d7,d8,d9,d10] w
  (λρ w'=>∃p,ρ=[.obj 0 s,nv m,.ref nl,.ref nr,.int 1,.ref p,d6,d7,d8,d9,d10]∧Fm0 w w'∧w.next≤p∧iI w' p L):=λK2 kk=>hL.casesOn λrs a b c=>by
 have l3:lim=100000:=rfl
 refine ok (fV a) (rQ (Giv.cell λw' (f:Fm0 w w')=>f.at a) (LlI L w) (λξ ξ ξ h=>h.casesOn λξ ξ ξ ξ f ξ=>f) (λj d hd acc w1 h R hR=>h.casesOn λqs w1 ea hq f1 hqs=>?_) (λacc w1 h=>h.casesOn λqs w1 ea hq f1 hqs=>kk _ _ ⟨_,rfl,f1.add _,f1.next,.mk qs (ea▸At.new _ _) (by rw[hq,aA];exact b) λk r l h1 h2=>(hqs k r l h1 h2).1.add _⟩) (.mk [] w rfl rfl .refl λk r l h=>nomatch h))
 obtain⟨r,hr,rfl⟩:=kW hd
 have jl:j<L.length:=by rw[←b];exact(aB.mp hr).1
 obtain⟨l,el⟩:=gat jl
 refine ok (KW (f1.at (c j r l hr el))) ⟨by rw[ea,aA,hq];lia,hR _ _ (.mk (qs++[w1.next]) _ (by rw[ea,aI];rfl) (by rw[aD,hq];rfl) (f1.add _) λi q m hi hm=>?_)⟩
 by_cases e:i<qs.length
 ·rw[aJ e] at hi
  exact⟨(hqs i q m hi hm).1.add _,(hqs i q m hi hm).2⟩
 ·have hi2:i=qs.length:=mH hi e
  subst hi2
  rw[cN] at hi
  rw[hq,el] at hm
  rw[←Option.some.inj hi,←Option.some.inj hm];exact⟨At.new _ _,f1.next⟩
theorem Fb{v x:Int}(h:hX 3 v x=false):x=v:=Classical.byContradiction λq=>by rw[zT.mpr q] at h;cases h
noncomputable def DT:Bk:=qW (gH 1 iV)
noncomputable abbrev foV(s m nl nr p:Nat)(k:Nat)(old:Dm)(v:Int)(ls:List Lit)(d10:V):List V:=[.obj 0 s,nv m,.ref nl,.ref nr,.int 1,.ref p,nv (k+1),dV old,iG (((k+1:Nat):Int),3,v),AO ls,d10]
theorem ZC(h1:lA C){Q:Cq}{L:List (List Int)}{s m nl nr p k:Nat}{old:Dm}{v:Int}{ls:List Lit}{d10:V}(hL:iI w p L)(hs:∀l∈L,l.length<100)(J:Ds Q L k v ls) :
  GoS (stW G C (gH 0 DT)) (foV s m nl nr p k old v ls d10) w (λρ w'=>ρ=foV s m nl nr p k old v ls d10∧Fm0 w w'):=λK2 kk=>by
 refine ok (RQ (w:=w)) (nB (λq=>absurd rfl q) λξ=>h1 ls L p w _ (λt ht=>yT (J.hol t ht)) hs hL λw' f=>?_)
 rw[cC.mpr λt ht=>TV (J.hol t ht)]
 exact kk _ _ ⟨rfl,f⟩
theorem ZB(h1:rX C)(h2:mE C){Q:Cq}{L rows:List (List Int)}{s m nl nr p k:Nat}{old:Dm}{v:Int}{ls:List Lit}{d10:V}(hn:L.length=Q.n)(hk:k<L.length)(hr:At w nr (.list (rows.map iT)))(R:Rws Q rows)(J:Ds Q L k v ls)(hl:ls.length<lim) :
  GoS (stW G C (gH 1 DT)) (foV s m nl nr p k old v ls d10) w (λρ w'=>ρ=foV s m nl nr p k old v ls d10∧Fm0 w w'):=λK2 kk=>by
 have l3:lim=100000:=rfl
 have few:=R.few
 refine ok (fV hr) (gM rows iT (Giv.cell λw' (f:Fm0 w w')=>f.at hr) (λξ=>false) iT (λr=>[iT r]) (λξ ξ=>rfl) (by show 0+rows.length≤lim;lia) (λr hm w1 f1 T F tt ff=>?_) λw1 f1=>?_)
 ·obtain⟨rn,K⟩:=R.all r hm
  have rk:r[k]?=some (r.getD k 0):=by rw[aL,aC (by simp_all +arith)];rfl
  refine ok (wO (k:=k) (by(simp at *;done)) (by rw[aK,rk];rfl)) (h1 (((k+1:Nat):Int),3,v) _ w1 _ (show 3<4 by decide) ?_)
  show Bool.rec (motive:=λξ=>Prop) _ _ (!hX 3 v (r.getD k 0))
  have lk:∀t∈ls,LW r.length t:=λt ht=>by rw[rn,←hn];exact yT (J.hol t ht)
  refine bB (λq=>h2 ls r w1 _ lk hl λw2 f2=>?_) λξ=>ff w1 .refl rfl
  have q:r.getD k 0=v:=Fb (by simpa using q)
  have no:(ls.all λt=>yA t r)=false:=fJ.mpr λz=>J.no r rn K (by rw[rk,q]) λt ht=>(IM (lk t ht)).mp (cC.mp z t ht)
  rw[no]
  exact ff w2 f2 rfl
 ·rw[show(rows.filter λξ=>false)=[] from List.filter_eq_nil_iff.mpr λξ ξ h=>nomatch h]
  exact ok (Eh (l:=[]) ((At.new w1 (.list [])).add _) (At.new _ _)) (kk _ _ ⟨rfl,(f1.add _).add _⟩)
theorem Yz(h1:rX C){L:List (List Int)}{s m nl nr p k:Nat}{old:Dm}{v:Int}{ls:List Lit}{d10:V}{l:List Int}(hL:iI w p L)(hs:∀l∈L,l.length<100)(hk:L[k]?=some l) :
  GoS (stW G C (gH 2 DT)) (foV s m nl nr p k old v ls d10) w (λρ w'=>ρ=foV s m nl nr p k old v ls d10∧Fm (· = p) w w'∧iI w' p (L.set k (l.filter (hX 3 v)))):=λK2 kk=>(hL.item hk).casesOn λr hi hr=>by
 have l3:lim=100000:=rfl
 have ll:=hs l (aF hk)
 have kl:=(aB.mp hk).1
 have pl:p<w.next:=hL.casesOn λrs a ξ ξ=>a.lt
 refine ok (Bz (k:=k) (by(simp at *;done)) hi) (ok (fV hr) (gM l .int (Giv.cell λw' (f:Fm0 w w')=>f.at hr) (hX 3 v) .int (λv=>[.int v]) (λξ ξ=>rfl) (by show 0+l.length≤lim;lia) (λu hu w2 f2 T F tt ff=>?_) λw2 f2=>?_))
 ·refine h1 (((k+1:Nat):Int),3,v) u w2 _ (show 3<4 by decide) ?_
  exact bB (λq=>tt _ .refl q) λq=>ff _ .refl q
 ·have f3:=f2.add (.list ((l.filter (hX 3 v)).map .int))
  refine((hL.keep f3).put kl (At.new w2 (.list ((l.filter (hX 3 v)).map .int))) (cP (aM pl f2.next))).casesOn λds a b c=>?_
  exact ok (Jp a (j:=k) (by(simp at *;done)) b) (kk _ _ ⟨rfl,(f3.up (M:=(· = p))).set (.inl rfl) _,c⟩)
theorem Rl(h1:lA C)(h2:rX C)(h3:mE C){Q:Cq}{σ:Sr}{sc:Sc}{L rows L':List (List Int)}{es tr:List Te}{nl nr p:Nat}(d6 d7 d8 d9 d10:V)(S:iP w₀ σ sc)(et:σ.trail=tr++es)(T:Trl Q L es L')(hn:L.length=Q.n)(hs:∀l∈L,l.length<100)(hr:At w₀ nr (.list (rows.map iT)))(R:Rws Q rows)(f:Fm0 w₀ w)(hp:w₀.next≤p)(hL:iI w p L) :
  GoS (stW G C (gH 1 iV)) [.obj 0 sc.s,nv tr.length,.ref nl,.ref nr,.int 1,.ref p,d6,d7,d8,d9,d10] w (λρ w'=>Fm0 w₀ w'∧(∃a b c d e,ρ=[.obj 0 sc.s,nv tr.length,.ref nl,.ref nr,.int 1,.ref p,a,b,c,d,e])∧iI w' p L'):=λK2 kk=>by
 have S1:=S.keep0 f
 have pl:p<w.next:=hL.casesOn λrs a ξ ξ=>a.lt
 have e1:(σ.trail.map teV).drop tr.length=es.map teV:=by rw[et,aI,←aA (f:=teV),List.drop_left]
 have dr:=CH S1.trail (k:=tr.length) (by rw[aA,et,aD];(simp at *;done))
 rw[e1] at dr
 refine ok (fld S1.ns (by decide) rfl rfl) (ok dr (ok (fV (At.new _ _)) ?_))
 refine iD (xs:=es) (enc:=teV) (Giv.cell (J:=λw'=>At w' w.next (.list (es.map teV))) λw' h=>h) (FoI Q sc.s tr.length nl nr p w.next L es w₀) (λξ ξ ξ h=>h.c) (.mk _ _ _ _ _ _ (f.add _) (hL.keep (Fm.refl.add _)) (At.new _ _)) (λρ w' h=>h.casesOn λa b c d e w1 f1 h1 ξ=>kk _ _ ⟨f1,⟨_,_,_,_,_,rfl⟩,by rw[bM,T.fin] at h1;exact h1⟩) λj e hj ρ w' h R2 hR2=>h.casesOn λa b c d e' w1 f1 hL1 hc1=>?_
 obtain⟨k,l,v,ls,hk,hv,J,ll⟩:=T.ent j e hj
 have sm:=GK (es:=es.take j) hs
 have ln:((es.take j).foldl BE L).length=Q.n:=(EI _ _).trans hn
 refine ZC h1 hL1 sm J _ λρ w2 zz=>?_
 obtain⟨e2,f2⟩:=zz
 subst e2
 have hL2:=hL1.keep f2
 refine ZB h2 h3 ln (aB.mp hk).1 ((f1.trans f2).at hr) R J ll _ λρ w3 zz=>?_
 obtain⟨e3,f3⟩:=zz
 subst e3
 refine Yz h2 (hL2.keep f3) sm hk _ λρ w4 zz=>?_
 obtain⟨e4,f4,hL4⟩:=zz
 subst e4
 have fj:(es.take (j+1)).foldl BE L=((es.take j).foldl BE L).set k (l.filter (hX 3 v)):=by rw[gS hj,eO];exact IB hk
 exact hR2 _ _ (.mk _ _ _ _ _ _ ((f1.trans (f2.trans f3)).fresh f4 λm e=>.inr (e▸hp)) (fj▸hL4) (f4.keep _ _ (λe=>cP pl e) ((f2.trans f3).at hc1)))
theorem GV(h1:lA C)(h2:rX C)(h3:mE C):qL (gR G C):=λQ σ sc L es tr nl nr rows L' w K O S et T hn hs hL hr R k=>by
 have n4:=O.n
 refine⟨rfl,?_⟩
 show bkW G C (iU 0 iV) _ _ _
 refine gP rfl (OU sc.s tr.length nl nr _ _ _ _ _ _ hL (by simp +arith [*])) λρ w1 zz=>?_
 obtain⟨p,e1,f1,hp,hL1⟩:=zz
 subst e1
 refine gP rfl (Rl h1 h2 h3 _ _ _ _ _ S et T hn hs hr R f1 hp hL1) λρ w2 zz=>?_
 obtain⟨f2,⟨a,b,c,d,e,e2⟩,hL2⟩:=zz
 subst e2
 exact k w2 p f2 hp hL2
end
theorem Ij(v x:Nat):∀l:List Nat,x∈sT v l↔x=v∨x∈l
 |[]=>bJ
 |y::r=>by
  show x∈(if v<y then v::y::r else y::sT v r)↔_
  by_cases q:v<y
  ·rw[if_pos q];exact bJ
  ·rw[if_neg q,bJ,Ij v x r,bJ]
   exact⟨λz=>z.elim (λz=>.inr (.inl z)) λz=>z.imp id .inr,λz=>z.elim (λz=>.inr (.inl z)) λz=>z.imp id .inr⟩
theorem NN(l:List Nat)(v x:Nat):x∈BN l v↔x=v∨x∈l:=by
 unfold BN
 by_cases q:v∈l
 ·rw[if_pos q];exact⟨.inr,λz=>z.elim (λz=>z▸q) id⟩
 ·rw[if_neg q];exact Ij v x l
theorem AH{x:Nat}(l:List Nat):x∈iN l↔x∈l:=by
 have key:∀(l a:List Nat),x∈l.foldl BN a↔x∈l∨x∈a:=λl=>by
  induction l with
  |nil=>exact λa=>⟨.inr,λz=>z.elim (λz=>nomatch z) id⟩
  |cons v l ih =>
   intro a
   rw[List.foldl_cons,ih,NN,bJ]
   exact⟨λz=>z.elim (λz=>.inl (.inr z)) λz=>z.elim (λz=>.inl (.inl z)) .inr,λz=>z.elim (λz=>z.elim (λz=>.inr (.inl z)) .inl) λz=>.inr (.inr z)⟩
 exact(key l []).trans ⟨λz=>z.elim id λz=>(nomatch z),.inl⟩
theorem Jm:∀a∈kG,(a.map λv:Nat=>(v:Int))∈iE:=by decide +kernel
theorem BZ:∀l∈iE,∀v∈l,1≤v∧v≤4:=by decide +kernel
theorem QS:∀a∈iE,∀b∈iE,(∀v∈wE,decide (v∈a)=decide (v∈b))→a=b:=by decide +kernel
theorem EG{a b:List Int}(ha:a∈iE)(hb:b∈iE)(h:∀v,v∈a↔v∈b):a=b:=QS a ha b hb λv ξ=>decide_eq_decide.mpr (h v)
theorem Ks{xs:List Int}{l:List Int}(hl:l∈iE)(h:∀v,v∈xs↔v∈l):(iN (xs.map Int.toNat)).map (λv:Nat=>V.int (v:Int))=l.map .int:=by
 have h4:∀v∈xs,1≤v∧v≤4:=λv hv=>BZ l hl v ((h v).mp hv)
 have e:((iN (xs.map Int.toNat)).map λv:Nat=>(v:Int))=l:=by
  refine EG (Jm _ (Gl _ λv hv=>?_)) hl λv=>?_
  ·obtain⟨x,hx,rfl⟩:=bL.mp hv
   have:=h4 x hx
   obtain⟨m,rfl,lt⟩:=NH (n:=5) (aS (by decide) this.1) (Int.lt_add_one_of_le this.2)
   exact(by decide:∀m<5,1≤m→m∈[1,2,3,4]) m lt (dP.mp this.1)
  ·rw[←h v]
   constructor
   ·intro z
    obtain⟨n,hn,rfl⟩:=bL.mp z
    obtain⟨x,hx,e⟩:=bL.mp ((AH _).mp hn)
    have:=h4 x hx
    rw[←e,dA (aS (by decide) this.1)];exact hx
   ·intro z
    have:=h4 v z
    exact bL.mpr ⟨v.toNat,(AH _).mpr (bL.mpr ⟨v,z,rfl⟩),dA (aS (by decide) this.1)⟩
 rw[←e,cL];rfl
theorem MZ{w:W}{n:Nat}{xs:List Int}(h:At w n (.list (xs.map .int)))(h4:∀v∈xs,1≤v∧v≤4):Ma w (.ref n)=some (iN (xs.map Int.toNat)):=by
 show((iS w (.ref n)).bind λds=>(jD ds).bind λl=>if(l.all λi=>decide (1≤i∧i≤4))=true then some (iN (l.map Int.toNat)) else none)=_
 rw[fQ h,cE,show jD (xs.map V.int)=some xs by have:=vC (λi:Int=>i) xs;rwa [List.map_id'] at this,cE,if_pos (cC.mpr λv hv=>decide_eq_true (h4 v hv))]
structure Pp(Q:Cq)(rows L:List (List Int)):Prop extends Rws Q rows where
 has:∀r,Row0 Q L r→r∈rows
structure Prj(Q:Cq)(L L':List (List Int)):Prop where
 len:L'.length=L.length
 mem:∀(k:Nat) l v,L'[k]?=some l→(v∈l↔∃r,Row0 Q L r∧r[k]?=some v)
section
variable{Q:Cq}{σ σ':Sr}{L L' rows:List (List Int)}
theorem Run.row0(R:Run Q σ L σ' L')(hn:L.length=Q.n){r:List Int}(h:Row0 Q L r):Row0 Q L' r:=⟨h.len,h.keeps,R.row hn h.keeps h.wth⟩
theorem Run.prj(R:Run Q σ L σ' L')(X:Ctx Q L){at_:List Int}(Z:Sol Q L at_)(Ct:Cut L L' (Bo Q L at_ (Q.ws.length+1))):Prj Q L L':=
 ⟨R.len,λk l v hl=>⟨λhv=>ZK X Z Ct hl hv,λz=>z.elim λr z=>(R.row0 X.n z.1).wth.2 k v l z.2 hl⟩⟩
theorem Run.failed(R:Run Q σ L σ' L'):σ'.failed=σ.failed:=by
 induction R with
 |nil=>rfl
 |snoc σ' L' k l v ls R hk hv hne J _ ih=>exact ih
theorem rC(R:Pp Q rows L)(hn:L.length=Q.n){r:List Int}:r∈rows.filter (qB L)↔Row0 Q L r:=by
 rw[bX]
 constructor
 ·rintro⟨h1,h2⟩
  obtain⟨a,b⟩:=R.all r h1
  exact⟨a,b,(Dw (a.trans hn.symm)).mp h2⟩
 ·intro h
  exact⟨R.has r h,(Dw h.wth.1).mpr h.wth⟩
theorem Prj.none(P:Prj Q L L')(R:Run Q σ L σ' L')(hn:L.length=Q.n){σ'':Sr}{L'':List (List Int)}(R2:Run Q σ' L' σ'' L''):σ''=σ'∧L''=L':=
 R2.none (R.len.trans hn) λk l v hl hv=>((P.mem k l v hl).mp hv).elim λr h=>⟨r,R.row0 hn h.1,h.2⟩
end
noncomputable def Oc:Fn:=⟨4,10,none,gI⟩
structure Sb(Q:Cq)(L rows:List (List Int))(σ:Sr)(w:W)(sc:Sc)(c:Cc)(nr:Nat):Prop extends Rb Q L σ w sc c where
 nf:σ.failed=false
 hr:At w nr (.list (rows.map iT))
 nn:¬sc.In nr
 R:Pp Q rows L
 st:σ.trail.length≤500
 sn:σ.nn≤500
noncomputable def jS(C:Cl):Prop:=∀Q c σ sc L rows nr w K,Sb Q L rows σ w sc c nr →
 (∀w' σ' sc' L',gU w sc w' σ' sc'→Run Q σ L σ' L'→Prj Q L L'→(∃r,Row0 Q L r)→K (.bool true) w') →
 (∀w' sc' ls,gU w sc w' {σ with failed:=true,clash:=ls} sc'→(∀r,¬Row0 Q L r)→K (.bool true) w')→C Oc [.obj 0 sc.s,.obj 2 c.q,.ref nr,.int 1] w K
structure Aft(Q:Cq)(L:List (List Int))(σ:Sr)(w:W)(sc:Sc)(b:Bool)(w':W)(σ':Sr)(sc':Sc)(L':List (List Int))(es:List Te):Prop where
 to:gU w sc w' σ' sc'
 tr:σ'.trail=σ.trail++es
 tl:Trl Q L es L'
 dom:Dom σ' L'
 fin:b=true→Run Q σ L σ' L'∧Prj Q L L'∧∃r,Row0 Q L r
 cl:b=false→L'=L∧∃ls,σ'={σ with failed:=true,clash:=ls}∧ls.length<lim∧(∀t∈ls,Hol t L)∧∀r,r.length=Q.n→lD Q r→¬∀t∈ls,Say t r
theorem tS{w:W}{n k:Nat}{ds:List V}(h:At w n (.list ds))(e:ds.length=k):wT 0 [.ref n] w=some (nv k,w):=e▸gJ h
theorem Bh{w:W}{k:Nat}(r:List Int):rd w (k+1) (iT r)=some (.tuple (r.map .int)):=GR r λi ξ=>lZ i
theorem Eg{w:W}{n m:Nat}{rows:List (List Int)}(h:At w n (.list (rows.map iT)))(hm:At w m (.list [])):jK .Eq w (.ref n) (.ref m)=some rows.isEmpty:=by
 rw[rA (oQ (k:=7) rows h λr ξ=>Bh r) hm];cases rows<;>rfl
theorem KR{w:W}{n m:Nat}{rows:List (List Int)}(h:At w n (.list (rows.map iT)))(hm:At w m (.list [])):jK .NotEq w (.ref n) (.ref m)=some (!rows.isEmpty):=by
 show Option.map (!·) (jK .Eq w (.ref n) (.ref m))=_
 rw[Eg h hm];rfl
theorem iI.len{w:W}{n:Nat}{L:List (List Int)}(h:iI w n L):wT 0 [.ref n] w=some (nv L.length,w):=h.casesOn λrs a b ξ=>tS a (by rw[aA];exact b)
section
variable{G:List Int}{C:Cl}{w:W}{Q:Cq}{L L' rows:List (List Int)}{σ σ':Sr}{sc sc':Sc}{c:Cc}{nr nb nl na m s:Nat}{K2:List V→Out→W→Prop}
theorem sd0(h1:iR C)(O:Q.Ok)(F:Far w sc Q c)(S:iP w σ sc)(D:Dom σ L)(n:L.length=Q.n)(d4 d5 d6 d7 d8 d9:V):GoS (stW G C (gH 0 gI)) [.obj 0 sc.s,.obj 2 c.q,.ref nr,.int 1,d4,d5,d6,d7,d8,d9] w
  (λρ w'=>∃nb,ρ=[.obj 0 sc.s,.obj 2 c.q,.ref nr,.int 1,.ref nb,nv σ.trail.length,d6,d7,d8,d9]∧Fm0 w w'∧LsN w.next w' nb L):=λK2 kk =>
 h1 Q c σ sc L w _ O F S D n λw' p f h=>ok (fld (S.keep0 f).ns (by decide) rfl rfl) (ok (tS (S.keep0 f).trail (aA ..)) (kk _ _ ⟨p,rfl,f,h⟩))
theorem sd1(h1:vP C)(q:Nat)(hr:At w nr (.list (rows.map iT)))(hL:iI w nb L)(R:Rws Q rows)(O:Q.Ok)(n:L.length=Q.n)(d6 d7 d8 d9:V):GoS (stW G C (gH 1 gI)) [.obj 0 s,.obj 2 q,.ref nr,.int 1,.ref nb,nv m,d6,d7,d8,d9] w
  (λρ w'=>∃nl,ρ=[.obj 0 s,.obj 2 q,.ref nr,.int 1,.ref nb,nv m,.ref nl,d7,d8,d9]∧Fm0 w w'∧w.next≤nl∧At w' nl (.list ((rows.filter (qB L)).map iT))):=λK2 kk =>
 h1 rows L nr nb w _ hr hL (λr h=>(R.all r h).1.trans n.symm) R.few (by have:=O.n;lia) λw' p f hp h=>kk _ _ ⟨p,rfl,f,hp,h⟩
theorem sd2(h1:uA C)(b:Rb Q L σ w sc c)(d7 d8 d9:V):GoS (stW G C (gH 2 gI)) [.obj 0 sc.s,.obj 2 c.q,.ref nr,.int 1,.ref nb,nv m,.ref nl,d7,d8,d9] w
  (λρ w'=>∃b σ' sc' L' es,ρ=[.obj 0 sc.s,.obj 2 c.q,.ref nr,.int 1,.ref nb,nv m,.ref nl,.bool b,d8,d9]∧Aft Q L σ w sc b w' σ' sc' L' es):=λK2 kk =>
 ok (gG b.far.cd.ns (by decide)) (h1 Q c L σ sc w _ b (λw' σ' sc' L' at_ T R Z Ct=>R.trl.elim λes e=>kk _ _ ⟨true,σ',sc',L',es,rfl,T,e.1,e.2,R.dom b.D,λξ=>⟨R,R.prj b.X Z Ct,EN b.X Z Ct (R.dom b.D).ne⟩,λz=>nomatch z⟩)
  λw' h=>by
   refine h.casesOn (motive:=λd w' ξ=>d=V.bool false→K2 ([.obj 0 sc.s,.obj 2 c.q,.ref nr,.int 1,.ref nb,nv m,.ref nl,d,d8,d9]) .go w') (λw' sc' ls T ll ho no ξ=>?_) rfl
   exact kk _ _ ⟨false,_,sc',L,[],rfl,T,(cD _).symm,⟨rfl,λj e h=>nomatch h⟩,⟨b.D.doms,b.D.sub,b.D.ne⟩,λz=>(nomatch z),λξ=>⟨rfl,ls,rfl,ll,ho,no⟩⟩)
theorem sd3(h1:iR C)(O:Q.Ok)(F:Far w sc Q c)(S:iP w σ sc)(D:Dom σ L)(n:L.length=Q.n)(d4 d5 d6 d7 d8 d9:V):GoS (stW G C (gH 3 gI)) [.obj 0 sc.s,.obj 2 c.q,.ref nr,.int 1,d4,d5,d6,d7,d8,d9] w
  (λρ w'=>∃na,ρ=[.obj 0 sc.s,.obj 2 c.q,.ref nr,.int 1,d4,d5,d6,d7,.ref na,d9]∧Fm0 w w'∧iI w' na L):=λK2 kk =>
 h1 Q c σ sc L w _ O F S D n λw' p f h=>kk _ _ ⟨p,rfl,f,h.ls⟩
theorem sd4(h1:qL C){es tr:List Te}(q:Nat)(b:Bool)(O:Q.Ok)(S:iP w σ sc)(et:σ.trail=tr++es)(T:Trl Q L es L')(n:L.length=Q.n)(hs:∀l∈L,l∈iE)(hL:iI w nb L)(hr:At w nr (.list (rows.map iT)))(R:Rws Q rows)(hL':iI w na L')(hl:At w nl (.list ((rows.filter (qB L)).map iT)))(hb:b = !(rows.filter (qB L)).isEmpty)(d9:V):GoS (stW G C (gH 4 gI)) [.obj 0 sc.s,.obj 2 q,.ref nr,.int 1,.ref nb,nv tr.length,.ref nl,.bool b,.ref na,d9] w
  (λρ w'=>ρ=[.obj 0 sc.s,.obj 2 q,.ref nr,.int 1,.ref nb,nv tr.length,.ref nl,.bool b,.ref na,d9]∧Fm0 w w'):=λK2 kk=>by
 refine h1 Q σ sc L es tr nb nr rows L' w _ O S et T n (λl h=>by have:=mZ l (hs l h);lia) hL hr R λw' p f hp hP=>ok (NG hP (hL'.keep f)) (nB (λq=>absurd rfl q) λξ=>ok (KR ((f.at hl).add _) (At.new _ _)) ?_)
 rw[←hb]
 exact bF (b:=!(b==b)) (by cases b<;>rfl) (kk _ _ ⟨rfl,f.add _⟩)
theorem aA4(h1:lA C)(h2:mE C){ls:List Lit}(q:Nat)(d5 d6 d9:V)(S:iP w σ sc)(ef:σ.failed=true)(ec:σ.clash=ls)(n:L.length=Q.n)(hs:∀l∈L,l∈iE)(hL:iI w na L)(hr:At w nr (.list (rows.map iT)))(R:Rws Q rows)(ll:ls.length<lim)(ho:∀t∈ls,Hol t L)(no:∀r,r.length=Q.n→lD Q r→¬∀t∈ls,Say t r)(kk:∀ρ w',Fm0 w w'→K2 ρ (.ret (.bool true)) w'):stW G C (gH 5 gI) [.obj 0 sc.s,.obj 2 q,.ref nr,.int 1,.ref nb,d5,d6,.bool false,.ref na,d9] w K2:=by
 have l3:lim=100000:=rfl
 have few:=R.few
 refine ok (fld S.ns (by decide) rfl rfl) ?_
 show Bool.rec (motive:=λξ=>Prop) _ _ (!σ.failed)
 refine bF (by rw[ef];rfl) (ok (fld S.ns (by decide) rfl rfl) ?_)
 rw[ec]
 refine h1 ls L na w _ (λt ht=>yT (ho t ht)) (λl h=>by have:=mZ l (hs l h);lia) hL λw1 f1=>?_
 rw[cC.mpr λt ht=>TV (ho t ht)]
 refine ok (fV (f1.at hr)) (gM rows iT (Giv.cell λw' (f:Fm0 w1 w')=>f.at (f1.at hr)) (λξ=>false) iT (λr=>[iT r]) (λξ ξ=>rfl) (by show 0+rows.length≤lim;lia) (λr hm w2 f2 T F tt ff=>?_) λw2 f2=>?_)
 ·obtain⟨rn,K⟩:=R.all r hm
  have lk:∀t∈ls,LW r.length t:=λt ht=>by rw[rn,←n];exact yT (ho t ht)
  have S2:=S.keep0 (f1.trans f2)
  refine ok (fld S2.ns (by decide) rfl rfl) ?_
  rw[ec]
  refine h2 ls r w2 _ lk ll λw3 f3=>?_
  rw[show(ls.all λt=>yA t r)=false from fJ.mpr λz=>no r rn K λt ht=>(IM (lk t ht)).mp (cC.mp z t ht)]
  exact ff w3 f3 rfl
 ·rw[show(rows.filter λξ=>false)=[] from List.filter_eq_nil_iff.mpr λξ ξ h=>nomatch h]
  exact ok (Eg (rows:=[]) ((At.new w2 (.list [])).add _) (At.new _ _)) (kk _ _ (((f1.trans f2).add _).add _))
theorem aA3(ρ:List V)(h:ρ[7]?=some (.bool true)):GoS (stW G C (gH 5 gI)) ρ w (λρ' w'=>ρ'=ρ∧w'=w):=λK2 kk=>ok h (kk _ _ ⟨rfl,rfl⟩)
theorem sd6(O:Q.Ok)(hL:iI w nb L)(n:L.length=Q.n)(hl:At w nl (.list ((rows.filter (qB L)).map iT)))(R:Pp Q rows L)(P:Prj Q L L')(sub:∀l∈L',l∈iE)(q:Nat)(d5 d7 d8 d9:V):GoS (stW G C (gH 6 gI)) [.obj 0 s,.obj 2 q,.ref nr,.int 1,.ref nb,d5,.ref nl,d7,d8,d9] w
  (λρ w'=>∃nd,ρ=[.obj 0 s,.obj 2 q,.ref nr,.int 1,.ref nb,d5,.ref nl,d7,d8,.ref nd]∧Fm0 w w'∧iI w' nd L'):=λK2 kk=>by
 have l3:lim=100000:=rfl
 have n4:=O.n
 have few:=R.few
 have lf:=bZ (qB L) rows
 refine ok hL.len (bT (lY (by lia)) ?_)
 refine rQ (show Giv (λξ=>True) (lP 0 L.length) _ from Giv.nat _ _) (LlI L' w) (λξ ξ ξ ξ=>trivial) (λj d hd acc w1 h R1 hR=>h.casesOn λrs w1 ea hq f1 hqs=>?_) (λacc w1 h=>h.casesOn λrs w1 ea hq f1 hqs=>kk _ _ ⟨_,rfl,f1.add _,.mk rs (ea▸At.new _ _) (by rw[hq,aA,aP];exact P.len.symm) λk r l h1 h2=>(hqs k r l h1 h2).1.add _⟩) (.mk [] w rfl rfl .refl λk r l h=>nomatch h)
 obtain⟨k,hk,rfl⟩:=kW hd
 obtain⟨jl,rfl⟩:=EZ hk
 obtain⟨l,el⟩:∃l,L'[k]?=some l:=gat (by rw[P.len];exact jl)
 have hl1:=f1.at hl
 refine ok (fV hl1) (rR (rows.filter (qB L)) iT (Giv.cell λw' (f:Fm0 w1 w')=>f.at hl1) (λr=>.int (r.getD k 0)) (λr=>[iT r]) (λξ ξ=>rfl) (by show 0+_≤lim;lia) (λr hr w2 f2 T F tt=>?_) λw2 f2=>?_)
 ·have hr:=(rC R n).mp hr
  have rk:r[k]?=some (r.getD k 0):=by rw[aL,aC (by rw[hr.len,←n];exact jl)];rfl
  exact ok (pN (by rw[aK,rk];rfl)) (tt _ .refl)
 ·have e1:[]++(rows.filter (qB L)).map (λr=>V.int (r.getD k 0))=((rows.filter (qB L)).map λr=>r.getD k 0).map .int:=by rw[cL];rfl
  have hm:∀v,v∈(rows.filter (qB L)).map (λr=>r.getD k 0)↔v∈l:=λv=>by
   rw[P.mem k l v el,bL]
   constructor
   ·rintro⟨r,hr,rfl⟩
    have hr:=(rC R n).mp hr
    exact⟨r,hr,by rw[aL,aC (by rw[hr.len,←n];exact jl)];rfl⟩
   ·rintro⟨r,hr,e⟩
    exact⟨r,(rC R n).mpr hr,hG e⟩
  have hsub:=sub l (aF el)
  rw[e1]
  have c:=At.new w2 (.list (((rows.filter (qB L)).map λr=>r.getD k 0).map .int))
  refine ok (MZ c λv hv=>BZ l hsub v ((hm v).mp hv)) ⟨by rw[ea,aA,hq];lia,hR _ _ (.mk (rs++[w2.next+1]) _ (by rw[ea,aI];rfl) (by rw[aD,hq];rfl) (((f1.trans f2).add _).add _) λi r m hi hm2=>?_)⟩
  by_cases e:i<rs.length
  ·rw[aJ e] at hi
   exact⟨((f2.at (hqs i r m hi hm2).1).add _).add _,(hqs i r m hi hm2).2⟩
  ·have hi2:i=rs.length:=mH hi e
   subst hi2
   rw[cN] at hi
   rw[hq,el] at hm2
   rw[←Option.some.inj hi,←Option.some.inj hm2,←Ks hsub hm]
   exact⟨At.new _ _,dN (f1.trans f2).next⟩
theorem sd7(q:Nat)(d4 d5 d6 d7:V){nd:Nat}(S:iP w σ sc)(ef:σ.failed=false)(h1:iI w na L')(h2:iI w nd L'):GoS (stW G C (gH 7 gI)) [.obj 0 sc.s,.obj 2 q,.ref nr,.int 1,d4,d5,d6,d7,.ref na,.ref nd] w
  (λρ w'=>ρ=[.obj 0 sc.s,.obj 2 q,.ref nr,.int 1,d4,d5,d6,d7,.ref na,.ref nd]∧w'=w):=λK2 kk=>by
 refine ok (NG h1 h2) (nB (λq=>absurd rfl q) λξ=>ok (fld S.ns (by decide) rfl rfl) ?_)
 show Bool.rec (motive:=λξ=>Prop) _ _ σ.failed
 exact bF ef (kk _ _ ⟨rfl,rfl⟩)
theorem sd8(d1 d2 d3 d4 d5 d6 d7 d8 d9:V)(S:iP w σ sc):GoS (stW G C (gH 8 gI)) [.obj 0 sc.s,d1,d2,d3,d4,d5,d6,d7,d8,d9] w
  (λρ w'=>ρ=[.obj 0 sc.s,d1,d2,d3,d4,nv σ.trail.length,d6,d7,d8,d9]∧w'=w):=λK2 kk=>ok (fld S.ns (by decide) rfl rfl) (ok (tS S.trail (aA ..)) (kk _ _ ⟨rfl,rfl⟩))
theorem sd9(h1:uA C)(d2 d3 d4 d6 d7 d8 d9:V)(b:Rb Q L' σ w sc c)(hn:∀σ'' L'',Run Q σ L' σ'' L''→σ''=σ∧L''=L')(hr:∃r,Row0 Q L' r)(kk:∀ρ w' sc',gU w sc w' σ sc'→K2 ρ (.ret (.bool true)) w'):stW G C (gH 9 gI) [.obj 0 sc.s,.obj 2 c.q,d2,d3,d4,nv σ.trail.length,d6,d7,d8,d9] w K2:=by
 refine ok (gG b.far.cd.ns (by decide)) (h1 Q c L' σ sc w _ b (λw' σ' sc' L'' at_ T R Z Ct=>?_) λw' h=>h.casesOn (motive:=λξ ξ ξ=>_) λw' sc' ls T ll ho no=>?_)
 ·obtain⟨rfl,rfl⟩:=hn _ _ R
  rw[←T.same]
  refine ok (fld T.at_.ns (by decide) rfl rfl) (ok (tS T.at_.trail (aA ..)) ?_)
  show K2 _ (.ret (.bool (PyData.eqv (.int (σ'.trail.length:Nat)) (.int (σ'.trail.length:Nat))))) _
  rw[kT,decide_eq_true rfl]
  exact kk _ _ _ T
 ·obtain⟨r,h⟩:=hr
  exact absurd (λt ht=>sI (ho t ht) h.wth) (no r h.len h.keeps)
end
section
variable{G:List Int}{C:Cl}{w:W}
theorem Da{ir:Bk}{n:Nat}{ρ:List V}{K:List V→Out→W→Prop}{E:V→W→Prop}(e:iU n ir=.cons (gH n ir) (iU (n+1) ir))(h:∀K2:List V→Out→W→Prop,(∀ρ d w,E d w→K2 ρ (.ret d) w)→stW G C (gH n ir) ρ w K2)(k:∀ρ d w,E d w→K ρ (.ret d) w):bkW G C (iU n ir) ρ w K:=by
 rw[e];exact h _ k
theorem iP.lt{σ:Sr}{sc:Sc}(S:iP w σ sc):∀m,sc.In m→m<w.next:=λm h=>eF.mp λz=>S.not_in z h
theorem Trl.len{Q:Cq}{L L':List (List Int)}{es:List Te}(T:Trl Q L es L'):L'.length=L.length:=by rw[←T.fin];exact EI L es
theorem My(h1:iR C)(h2:vP C)(h3:uA C)(h4:qL C)(h5:lA C)(h6:mE C):jS (gR G C):=λQ c σ sc L rows nr w K b kt kf=>by
 have O:=b.X.O.toOk
 have n:=b.X.n
 refine⟨rfl,?_⟩
 show bkW G C (iU 0 gI) _ _ _
 refine gP rfl (sd0 h1 O b.far b.at_ b.D n _ _ _ _ _ _) λρ w1 zz=>?_
 obtain⟨nb,e1,f1,N⟩:=zz
 subst e1
 refine gP rfl (sd1 h2 c.q (f1.at b.hr) N.ls b.R.toRws O n _ _ _ _) λρ w2 zz=>?_
 obtain⟨nl,e2,f2,hl,cl⟩:=zz
 subst e2
 have f12:=f1.trans f2
 have b2:Rb Q L σ w2 sc c:=⟨b.X,b.D,b.sml,b.far.keep f12,b.at_.keep0 f12⟩
 refine gP rfl (sd2 h3 b2 _ _ _) λρ w3 zz=>?_
 obtain⟨t,σ',sc',L',es,e3,A⟩:=zz
 subst e3
 have T:=A.to
 have X3:LsX sc'.In w3 nb L:=((N.far b.at_.lt).keep f2).go T.fm T.cells
 have cl3:=(T.fix cl λz=>eF.mpr (b.at_.lt _ z) (aE f1.next hl)).1
 have hr3:=(T.fix (f12.at b.hr) b.nn).1
 have n':L'.length=Q.n:=A.tl.len.trans n
 have ht:t = !(rows.filter (qB L)).isEmpty:=by
  cases t with
  |true =>
   obtain⟨_,_,r,hr⟩:=A.fin rfl
   have:=(rC b.R n).mpr hr
   cases q:rows.filter (qB L) with
   |nil=>rw[q] at this;cases this
   |cons=>rfl
  |false =>
   obtain⟨_,ls,_,_,ho,no⟩:=A.cl rfl
   cases q:rows.filter (qB L) with
   |nil=>rfl
   |cons r l =>
    have hr:=(rC b.R n).mp (q▸aZ:r∈rows.filter (qB L))
    exact absurd (λt ht=>sI (ho t ht) hr.wth) (no r hr.len hr.keeps)
 rw[show V.obj 0 sc.s=.obj 0 sc'.s by rw[T.same]]
 refine gP rfl (sd3 h1 O (b2.far.go T) T.at_ A.dom n' _ _ _ _ _ _) λρ w4 zz=>?_
 obtain⟨na,e4,f4,hA⟩:=zz
 subst e4
 refine gP rfl (sd4 h4 c.q t O (T.at_.keep0 f4) A.tr A.tl n b.X.sub (X3.ls.keep f4) (f4.at hr3) b.R.toRws hA (f4.at cl3) ht _) λρ w5 zz=>?_
 obtain⟨e5,f5⟩:=zz
 subst e5
 have f45:=f4.trans f5
 have T5:gU w sc w5 σ' sc':=(T.pre f12).post f45
 cases t with
 |false =>
  obtain⟨eL,ls,eσ,ll,ho,no⟩:=A.cl rfl
  subst eL
  refine Da rfl (E:=λd w'=>d=.bool true∧Fm0 w5 w') (λK2 kk=>aA4 h5 h6 c.q _ _ _ T5.at_ (by rw[eσ]) (by rw[eσ]) n b.X.sub (hA.keep f5) (f45.at hr3) b.R.toRws ll ho no λρ w' f=>kk ρ _ w' ⟨rfl,f⟩) λρ d w6 ⟨ed,f6⟩=>?_
  subst ed
  rw[eσ] at T5
  exact kf w6 sc' ls (T5.post f6) λr hr=>no r hr.len hr.keeps λt ht=>sI (ho t ht) hr.wth
 |true =>
  obtain⟨R,P,r0,hr0⟩:=A.fin rfl
  refine gP rfl (aA3 _ rfl) λρ w6 zz=>?_
  obtain⟨e6,e7⟩:=zz
  subst e6 e7
  refine gP rfl (sd6 O (X3.ls.keep f45) n (f45.at cl3) b.R P A.dom.sub c.q _ _ _ _) λρ w7 zz=>?_
  obtain⟨nd,e7,f7,hD⟩:=zz
  subst e7
  have f57:=f5.trans f7
  have T7:=T5.post f7
  have nf:σ'.failed=false:=R.failed.trans b.nf
  refine gP rfl (sd7 c.q _ _ _ _ T7.at_ nf (hA.keep f57) hD) λρ w8 zz=>?_
  obtain⟨e8,e9⟩:=zz
  subst e8 e9
  refine gP rfl (sd8 _ _ _ _ _ _ _ _ _ T7.at_) λρ w9 zz=>?_
  obtain⟨e8,e9⟩:=zz
  subst e8 e9
  have sz:=R.size
  have tl:=rY b.X.sub
  have n4:=O.n
  have st:=b.st
  have sn:=b.sn
  have b9:Rb Q L' σ' w9 sc' c:=⟨⟨b.X.O,n',A.dom.sub,A.dom.ne⟩,A.dom,⟨IN sz.1 tl (aE (bH n) n4.2) st (by decide),IN sz.2 tl (aE (bH n) n4.2) sn (by decide)⟩,b.far.go T7,T7.at_⟩
  refine Da rfl (E:=λd w'=>d=.bool true∧∃sc'',gU w9 sc' w' σ' sc'') (λK2 kk=>sd9 h3 _ _ _ _ _ _ _ b9 (λσ'' L'' R2=>P.none R n R2) ⟨r0,R.row0 n hr0⟩ λρ w' sc'' T9=>kk ρ _ w' ⟨rfl,sc'',T9⟩) λρ d w10 ⟨ed,sc'',T9⟩=>?_
  subst ed
  exact kt w10 σ' sc'' L' (T7.trans T9) R P ⟨r0,hr0⟩
end
structure Dec(n:Nat)(t:Lit)(k:Nat):Prop where
 var:t.1=((k+1:Nat):Int)
 lt:k<n
 sign:t.2.1<4
 num:t.2.2∈wE
section
variable{Q:Cq}{σ:Sr}{L:List (List Int)}{t:Lit}{k n:Nat}{l r:List Int}
theorem yN(h:Dec n t k):Say t r↔∃v,r[k]?=some v∧hX t.2.1 t.2.2 v=true:=by
 unfold Say
 rw[show(t.1-1).toNat=k by rw[h.var];(simp at *;done)]
theorem IO(h:Dec n t k)(hk:L[k]?=some l):Row0 Q (L.set k (l.filter (hX t.2.1 t.2.2))) r↔Row0 Q L r∧Say t r:=by
 have kl:=(aB.mp hk).1
 rw[yN h]
 constructor
 ·rintro⟨a,b,c,d⟩
  rw[bR] at c
  have ek:r[k]?=some r[k]:=aC (by exact aM kl (bH (id (Eq.symm c))))
  have z:=bX.mp (d k _ _ ek (cJ kl))
  refine⟨⟨a,b,c,λj v m h1 h2=>?_⟩,_,ek,z.2⟩
  by_cases q:k=j
  ·subst q
   rw[hk] at h2
   rw[ek] at h1
   rw[←Option.some.inj h1,←Option.some.inj h2];exact z.1
  ·exact d j v m h1 (by rw[cB q];exact h2)
 ·rintro⟨⟨a,b,c,d⟩,v,e,s⟩
  refine⟨a,b,c.trans bR.symm,λj x m h1 h2=>?_⟩
  by_cases q:k=j
  ·subst q
   rw[cJ kl] at h2
   rw[e] at h1
   rw[←Option.some.inj h2,←Option.some.inj h1]
   exact bX.mpr ⟨d k v l e hk,s⟩
  ·rw[cB q] at h2;exact d j x m h1 h2
structure aAk(σ:Sr)(L:List (List Int))(t:Lit)(k:Nat)(l:List Int)(σ':Sr):Prop where
 dom:Dom σ' (L.set k (l.filter (hX t.2.1 t.2.2)))
 trail:∃es,σ'.trail=σ.trail++es∧es.length≤1∧(∀e∈es,e=⟨k+1,mkD l,t,none,-1⟩)∧es.length+(l.filter (hX t.2.1 t.2.2)).length≤l.length
 nn:σ'.nn+(l.filter (hX t.2.1 t.2.2)).length≤σ.nn+l.length
 marks:σ'.marks=σ.marks
 failed:σ'.failed=σ.failed
 undo:∀es,σ'.trail=σ.trail++es→undo σ'.doms es=σ.doms
 firsts:σ'.firsts=σ.firsts
theorem JM(h:Dec n t k)(hl:l∈iE):l.filter (hX t.2.1 t.2.2)∈iE∧gW t.2.1 t.2.2 (mkD l)=mkD (l.filter (hX t.2.1 t.2.2)):=Ch l hl _ h.sign _ h.num
theorem vI(h:Dec n t k)(hl:l∈iE):gW t.2.1 t.2.2 (mkD l)=[]↔l.filter (hX t.2.1 t.2.2)=[]:=by
 obtain⟨s1,s2⟩:=JM h hl
 rw[s2]
 exact⟨λq=>uG _ s1 q,λq=>by rw[q];rfl⟩
theorem IK(D:Dom σ L)(hk:L[k]?=some l){m:List Int}(hm:m∈iE)(hn:m≠[]){σ':Sr}(e:σ'.doms=σ.doms.set (k+1) (mkD m)):Dom σ' (L.set k m):=by
 refine⟨by rw[e,D.doms,List.set_cons_succ,eW],λx hx=>?_,λx hx=>?_⟩
 ·rcases eR hx with hx | rfl
  ·exact D.sub x hx
  ·exact hm
 ·rcases eR hx with hx | rfl
  ·exact D.ne x hx
  ·exact hn
theorem JI(h:Dec n t k)(D:Dom σ L)(hk:L[k]?=some l)(ne:l.filter (hX t.2.1 t.2.2)≠[]):aAk σ L t k l (yF σ (k+1) t none (-1) (mkD l)):=by
 have hl:=D.mem hk
 obtain⟨s1,s2⟩:=JM h hl
 have n1:gW t.2.1 t.2.2 (mkD l)≠[]:=λq=>ne ((vI h hl).mp q)
 unfold yF
 rw[if_neg n1]
 by_cases q:gW t.2.1 t.2.2 (mkD l)=mkD l
 ·rw[if_pos q]
  rw[s2] at q
  have e:=Ii s1 hl q
  refine⟨IK D hk s1 ne ?_,⟨[],(cD _).symm,cX _,λξ h=>(nomatch h),by rw[e];exact bH (eJ _)⟩,by rw[e];exact aO _,rfl,rfl,(λes h=>by rw[List.append_right_eq_self.mp h.symm];rfl),rfl⟩
  obtain⟨lt,at_⟩:=aB.mp (D.at hk)
  rw[e,←at_]
  exact(List.set_getElem_self lt).symm
 ·rw[if_neg q]
  have lt:(l.filter (hX t.2.1 t.2.2)).length<l.length:=fF (bZ _ _) λe=>by
   have:=fC.mpr (eD.mp e)
   rw[s2,this] at q;exact q rfl
  refine⟨IK D hk s1 ne (by show σ.doms.set _ _=_;rw[s2]),⟨[_],rfl,aO _,λe h=>aG.mp h,by rw[bI];lia⟩,by show σ.nn+1+_≤_;lia,rfl,rfl,(λes h=>?_),rfl⟩
  rw[←List.append_cancel_left (show σ.trail++[⟨k+1,mkD l,t,none,-1⟩]=σ.trail++es from h)]
  show(σ.doms.set (k+1) _).set (k+1) (mkD l)=σ.doms
  obtain⟨lt,at_⟩:=aB.mp (D.at hk)
  rw[List.set_set,←at_]
  exact List.set_getElem_self lt
theorem Op(h:Dec n t k)(D:Dom σ L)(hk:L[k]?=some l)(s1:σ.trail.length≤1000)(s2:σ.nn≤1000):Fy σ (k+1) t none (mkD l):=
 have l3:lim=100000:=rfl
 ⟨h.var,D.at hk,oO (D.mem hk),h.sign,by decide,by lia,by lia⟩
end
structure sV(Q:Cq)(L:List (List Int))(ds:List Lit)(r:List Int):Prop extends Row0 Q L r where
 say:∀t∈ds,Say t r
noncomputable def LX(n:Nat)(ds:List Lit):Prop:=∀t∈ds,∃k,Dec n t k
structure Fu(Q:Cq)(L:List (List Int))(ds:List Lit)(L':List (List Int)):Prop where
 len:L'.length=L.length
 mem:∀(k:Nat) l v,L'[k]?=some l→(v∈l↔∃r,sV Q L ds r∧r[k]?=some v)
noncomputable def LD:Fn:=⟨3,7,none,iH⟩
noncomputable def sQ(C:Cl):Prop:=∀Q L nl nd ds w K,Q.Val→Lok L→L.length=Q.n→iI w nl L→At w nd (.list (ds.map iG))→LX Q.n ds→ds.length≤100 →
 (∀w' n L',Fm0 w w'→iI w' n L'→(∀l∈L',l∈iE)→Fu Q L ds L'→(∃r,sV Q L ds r)→K (.ref n) w')→(∀w',Fm0 w w'→(∀r,¬sV Q L ds r)→K .none w')→C LD [.ref nl,lG Q,.ref nd] w K
inductive AoI(Q:Cq)(L:List (List Int))(ds:List Lit)(nl nd:Nat)(c:Cc)(w₀:W)(j:Nat):List V→W→Prop
 |mk (sc:Sc) (σ:Sr) (L':List (List Int)) (d4 d6:V) (w:W):Fm0 w₀ w→iP w σ sc→sc.New w₀→Far w sc Q c→Dom σ L'→L'.length=Q.n→(∀r,Row0 Q L' r↔sV Q L (ds.take j) r)→σ.trail.length≤j→σ.nn≤4*j→AoI Q L ds nl nd c w₀ j [.ref nl,lG Q,.ref nd,.obj 0 sc.s,d4,.obj 2 c.q,d6] w
theorem AoI.fm{Q:Cq}{L:List (List Int)}{ds:List Lit}{nl nd j:Nat}{c:Cc}{w₀ w:W}{ρ:List V}(h:AoI Q L ds nl nd c w₀ j ρ w):Fm0 w₀ w:=h.casesOn λξ ξ ξ ξ ξ ξ f ξ ξ ξ ξ ξ ξ ξ ξ=>f
inductive ClE(Q:Cq)(L:List (List Int))(σ:Sr)(w:W)(sc:Sc)(w':W):Prop
 |mk (sc':Sc) (ls:List Lit):gU w sc w' {σ with failed:=true,clash:=ls} sc'→(∀t∈ls,Hol t L)→(∀r,r.length=Q.n→lD Q r→¬∀t∈ls,Say t r)→ClE Q L σ w sc w'
theorem BB.e{Q:Cq}{L:List (List Int)}{σ:Sr}{w w':W}{sc:Sc}{d:V}(h:BB Q L σ w sc d w'):ClE Q L σ w sc w':=h.casesOn λw' sc' ls T ξ ho no=>⟨sc',ls,T,ho,no⟩
section
variable{G:List Int}{C:Cl}{w w₀:W}{Q:Cq}{L:List (List Int)}{ds:List Lit}{nl nd:Nat}
theorem ao0(h1:sL C)(hL:iI w nl L)(O:Lok L)(d3 d4 d5 d6:V):GoS (stW G C (gH 0 iH)) [.ref nl,lG Q,.ref nd,d3,d4,d5,d6] w
  (λρ w'=>∃sc p,ρ=[.ref nl,lG Q,.ref nd,.obj 0 sc.s,.ref p,d5,d6]∧Fm0 w w'∧iP w' (srL L) sc∧sc.New w∧At w' p (.list (tk L.length))):=λK2 kk =>
 h1 L nl w _ hL O λw' sc p S f N hp np c=>kk _ _ ⟨sc,p,rfl,f,S,N,c⟩
theorem ao1(h1:sP C)(O:Q.Ok){p:Nat}(hp:At w p (.list (tk Q.n)))(d0 d2 d3 d5 d6:V):GoS (stW G C (gH 1 iH)) [d0,lG Q,d2,d3,.ref p,d5,d6] w
  (λρ w'=>∃c,ρ=[d0,lG Q,d2,d3,.ref p,.obj 2 c.q,d6]∧Fm0 w w'∧sW w' Q c∧w.next≤c.q∧w.next≤c.W∧w.next≤c.L∧w.next≤c.H):=λK2 kk =>
 ok (iW hp) (h1 Q w.next _ _ O (At.new _ _) λw' c ec cd f b1 b2 b3=>⟨rfl,kk _ _ ⟨c,by rw[ec];rfl,(Fm.refl.add _).fresh f λm e=>.inr (bH e.symm),cd,bH ec.symm,eZ b1,eZ b2,eZ b3⟩⟩)
theorem ao2(h1:jL C){c:Cc}(hd:At w₀ nd (.list (ds.map iG)))(hD:LX Q.n ds)(hl:ds.length≤100){ρ:List V}(h:AoI Q L ds nl nd c w₀ 0 ρ w) :
  GoR (stW G C (gH 2 iH)) ρ w (AoI Q L ds nl nd c w₀ ds.length) (λd w'=>d=.none∧Fm0 w₀ w'∧∀r,¬sV Q L ds r):=λK2 kk ke=>by
 refine h.casesOn (motive:=λρ w ξ=>AoI Q L ds nl nd c w₀ 0 ρ w→stW G C (gH 2 iH) ρ w K2) (λsc σ L' d4 d6 w1 f1 ξ ξ ξ ξ ξ ξ ξ ξ h=>?_) h
 refine ok (fV (f1.at hd)) (nZ (xs:=ds) (enc:=iG) (Giv.cell λw' (f:Fm0 w₀ w')=>f.at hd) (AoI Q L ds nl nd c w₀) (λξ ξ ξ h=>h.fm) h (λρ w' h=>kk ρ w' h) λj t hj ρ w' h R hR=>h.casesOn λsc σ L' d4 d6 w1 f1 S N F D n hR0 z1 z2=>?_)
 have jl:=(aB.mp hj).1
 obtain⟨k,hk⟩:=hD t (aF hj)
 obtain⟨l,el⟩:∃l,L'[k]?=some l:=gat (by rw[n];exact hk.lt)
 refine ok (gG S.ns (by decide)) (h1 sc σ (k+1) t (mkD l) (Op hk D el (by lia) (by lia)) w1 _ S λw2 sc2 T=>nB (λq=>?_) λq=>?_)
 ·have q:l.filter (hX t.2.1 t.2.2)=[]:=(vI hk (D.mem el)).mp (Classical.not_not.mp q)
  refine ke _ _ _ ⟨rfl,(New.go N f1 T).1,λr hr=>?_⟩
  have h0:Row0 Q L' r:=(hR0 r).mpr ⟨hr.toRow0,λt ht=>hr.say t (dY ht)⟩
  obtain⟨v,e,s⟩:=(yN hk).mp (hr.say t (aF hj))
  have:=bX.mpr ⟨h0.wth.2 k v l e el,s⟩
  rw[q] at this;cases this
 ·have ne:l.filter (hX t.2.1 t.2.2)≠[]:=λz=>q ((vI hk (D.mem el)).mpr z)
  have E:=JI hk D el ne
  obtain⟨es,e1,e2,_⟩:=E.trail
  have nn:=E.nn
  have lf:=List.length_pos_iff.mpr ne
  have l4:=mZ l (D.mem el)
  have g:=New.go N f1 T
  rw[←T.same]
  refine hR _ _ (.mk sc2 _ _ _ _ w2 g.1 T.at_ g.2 (F.go T) E.dom (by rw[bR];exact n) (λr=>?_) (by rw[e1,aD];lia) ?_)
  ·rw[IO hk el,hR0 r,gS hj]
   exact⟨λh=>⟨h.1.toRow0,λu hu=>(bQ.mp hu).elim (h.1.say u) λz=>by rw[aG.mp z];exact h.2⟩,λh=>⟨⟨h.toRow0,λu hu=>h.say u (cG _ hu)⟩,h.say t (dW _ aZ)⟩⟩
  ·exact aE (aE (dG _ _) nn) (dH ‹σ.nn≤4*j› l4)
theorem ao3(h1:uA C)(h2:iR C){c:Cc}{σ:Sr}{sc:Sc}{L':List (List Int)}(d0 d1 d2 d4 d6:V)(b:Rb Q L' σ w sc c)(f:Fm0 w₀ w)(N:sc.New w₀)(hR:∀r,Row0 Q L' r↔sV Q L ds r)(hn:L'.length=L.length){K2:List V→Out→W→Prop}(kk:∀w' n L',Fm0 w₀ w'→iI w' n L'→(∀l∈L',l∈iE)→Fu Q L ds L'→(∃r,sV Q L ds r)→∀ρ,K2 ρ (.ret (.ref n)) w')(ke:∀w',Fm0 w₀ w'→(∀r,¬sV Q L ds r)→∀ρ,K2 ρ (.ret .none) w') :
  stW G C (gH 3 iH) [d0,d1,d2,.obj 0 sc.s,d4,.obj 2 c.q,d6] w K2:=by
 refine ok (gG b.far.cd.ns (by decide)) (h1 Q c L' σ sc w _ b (λw1 σ1 sc1 L1 at_ T R Z Ct=>?_) λw' h=>h.e.casesOn λsc' ls T ho no=>?_)
 ·have P:=R.prj b.X Z Ct
  have n1:L1.length=Q.n:=P.len.trans b.X.n
  have g:=New.go N f T
  have D1:=R.dom b.D
  rw[←T.same]
  refine h2 Q c σ1 sc1 L1 w1 _ b.X.O.toOk (b.far.go T) T.at_ D1 n1 λw2 n f2 h=>kk w2 n L1 (g.1.trans f2) h.ls D1.sub ⟨P.len.trans hn,λk l v hl=>(P.mem k l v hl).trans ⟨λ⟨r,h,e⟩=>⟨r,(hR r).mp h,e⟩,λ⟨r,h,e⟩=>⟨r,(hR r).mpr h,e⟩⟩⟩ ((EN b.X Z Ct D1.ne).imp λr h=>(hR r).mp h) _
 ·exact ke w' (New.go N f T).1 (λr h=>by
   have h0:=(hR r).mpr h
   exact no r h0.len h0.keeps λt ht=>sI (ho t ht) h0.wth) _
theorem KJ(h1:sL C)(h2:sP C)(h3:jL C)(h4:uA C)(h5:iR C):sQ (gR G C):=λQ L nl nd ds w K O Lk n hL hd hD hl kk ke=>by
 refine⟨rfl,?_⟩
 show bkW G C (iU 0 iH) _ _ _
 refine gP rfl (ao0 h1 hL Lk _ _ _ _) λρ w1 zz=>?_
 obtain⟨sc,p,e1,f1,S1,N1,c1⟩:=zz
 subst e1
 rw[n] at c1
 refine gP rfl (ao1 h2 O.toOk c1 _ _ _ _ _) λρ w2 zz=>?_
 obtain⟨c,e2,f2,cd,b1,b2,b3,b4⟩:=zz
 subst e2
 have f12:=f1.trans f2
 have D0:Dom (srL L) L:=⟨rfl,Lk.sub,Lk.ne⟩
 refine DZ (Q:=AoI Q L ds nl nd c w ds.length) (E:=λd w'=>d=.none∧Fm0 w w'∧∀r,¬sV Q L ds r) rfl (ao2 h3 hd hD hl (.mk sc (srL L) L _ _ w2 f12 (S1.keep0 f2) N1 ⟨cd,S1.not_in b1,S1.not_in b2,S1.not_in b3,S1.not_in b4⟩ D0 n (λr=>⟨λh=>⟨h,λt ht=>nomatch ht⟩,λh=>h.toRow0⟩) (aO _) (aO _)))
  (λρ w3 h=>?_) λρ d w' z=>by obtain⟨rfl,f,h⟩:=z;exact ke w' f h
 refine h.casesOn λsc σ L' d4 d6 w3 f3 S3 N3 F3 D3 n3 hR z1 z2=>?_
 rw[bM] at hR
 have b:Rb Q L' σ w3 sc c:=⟨⟨O,n3,D3.sub,D3.ne⟩,D3,⟨by lia,by lia⟩,F3,S3⟩
 refine Da rfl (E:=λd w'=>(∃n L',d=.ref n∧Fm0 w w'∧iI w' n L'∧(∀l∈L',l∈iE)∧Fu Q L ds L'∧∃r,sV Q L ds r)∨(d=.none∧Fm0 w w'∧∀r,¬sV Q L ds r))
  (λK2 k2=>ao3 h4 h5 _ _ _ _ _ b f3 N3 hR (n3.trans n.symm) (λw' n L' f h s P r ρ=>k2 ρ _ w' (.inl ⟨n,L',rfl,f,h,s,P,r⟩)) λw' f h ρ=>k2 ρ _ w' (.inr ⟨rfl,f,h⟩)) λρ d w4 h=>?_
 rcases h with⟨n,L',e,f,h,s,P,r⟩ | ⟨e,f,h⟩
 ·subst e;exact kk w4 n L' f h s P r
 ·subst e;exact ke w4 f h
end
structure Lv(Q:Cq)(Lf:List (List Int))(ds:List Lit)(L:List (List Int)):Prop where
 sub:∀l∈L,l∈iE
 ne:∀l∈L,l≠[]
 len:L.length=Q.n
 prj:Fu Q Lf ds L
 row:∃r,sV Q Lf ds r
inductive Lvl(Q:Cq)(Lf:List (List Int)):List Int→List Te→List (List (List Int))→List Lit→List Dm→Prop
 |base (tr:List Te) (doms:List Dm):Lvl Q Lf [] tr [] [] doms
 |up (ms:List Int) (tr:List Te) (bs:List (List (List Int))) (ds:List Lit) (doms:List Dm) (L:List (List Int)) (t:Lit) (es:List Te):Lvl Q Lf ms tr bs ds ([(0,7)]::L.map mkD)→Lv Q Lf ds L→tr.length+tot L≤tot Lf→undo doms es=[(0,7)]::L.map mkD→(∀e∈es,e.x<doms.length)→Lvl Q Lf (ms++[(tr.length:Int)]) (tr++es) (bs++[L]) (ds++[t]) doms
structure Zq(Q:Cq)(Lf:List (List Int))(σ:Sr)(L:List (List Int))(ds:List Lit)(bs:List (List (List Int))):Prop where
 D:Dom σ L
 n:L.length=Q.n
 firsts:[]∉σ.firsts
 sz:σ.trail.length+tot L≤tot Lf
 sn:σ.nn+tot L≤tot Lf
 decs:LX Q.n ds
 lvl:Lvl Q Lf σ.marks σ.trail bs ds σ.doms
structure Inv(Q:Cq)(Lf:List (List Int))(σ:Sr)(L:List (List Int))(ds:List Lit)(bs:List (List (List Int))):Prop extends Zq Q Lf σ L ds bs where
 ok:σ.failed=false→Fu Q Lf ds L∧∃r,sV Q Lf ds r
 no:σ.failed=true→∀r,¬sV Q Lf ds r
structure Pre(Q:Cq)(Lf:List (List Int))(σ:Sr)(L:List (List Int))(ds:List Lit)(bs:List (List (List Int))):Prop extends Zq Q Lf σ L ds bs where
 nf:σ.failed=false
 row:∀r,Row0 Q L r↔sV Q Lf ds r
section
variable{Q:Cq}{Lf L L':List (List Int)}{σ σ':Sr}{ds:List Lit}{bs:List (List (List Int))}{r:List Int}
theorem Qe(P:Fu Q Lf ds L)(hd:LX Q.n ds)(hn:Lf.length=Q.n):Row0 Q L r↔sV Q Lf ds r:=by
 constructor
 ·intro h
  refine⟨⟨h.len,h.keeps,h.len.trans hn.symm,λk v l h1 h2=>?_⟩,λt ht=>?_⟩
  ·have kl:=(aB.mp h2).1
   obtain⟨m,hm⟩:∃m,L[k]?=some m:=gat (by rw[P.len];exact kl)
   obtain⟨r',a,b⟩:=(P.mem k m v hm).mp (h.wth.2 k v m h1 hm)
   exact a.wth.2 k v l b h2
  ·obtain⟨k,hk⟩:=hd t ht
   obtain⟨y,ek⟩:∃y,r[k]?=some y:=gat (by rw[h.len];exact hk.lt)
   obtain⟨m,hm⟩:∃m,L[k]?=some m:=gat (by rw[P.len,hn];exact hk.lt)
   obtain⟨r',a,b⟩:=(P.mem k m _ hm).mp (h.wth.2 k _ m ek hm)
   obtain⟨x,c,d⟩:=(yN hk).mp (a.say t ht)
   rw[b] at c
   rw[←Option.some.inj c] at d
   exact(yN hk).mpr ⟨_,ek,d⟩
 ·intro h
  exact⟨h.len,h.keeps,h.len.trans (P.len.trans hn).symm,λk v l h1 h2=>(P.mem k l v h2).mpr ⟨r,h,h1⟩⟩
theorem Lvl.strike{ms:List Int}{tr:List Te}{doms:List Dm}(h:Lvl Q Lf ms tr bs ds doms){e:Te}(d:Dm)(he:doms[e.x]?=some e.old):Lvl Q Lf ms (tr++[e]) bs ds (doms.set e.x d):=h.casesOn (motive:=λms tr bs ds doms ξ=>doms[e.x]?=some e.old→Lvl Q Lf ms (tr++[e]) bs ds (doms.set e.x d))
 (λtr doms ξ=>.base _ _) (λms tr bs ds doms L t es h V z u v he=>by
  rw[bV]
  obtain⟨lt,e2⟩:=aB.mp he
  refine .up ms tr bs ds _ L t (es++[e]) h V z ?_ λe' h'=>?_
  ·rw[Dy,List.set_set,←e2,List.set_getElem_self];exact u
  ·rw[bR]
   exact(bQ.mp h').elim (v e') λq=>by rw[aG.mp q];exact lt) he
theorem Run.lvl(R:Run Q σ L σ' L')(D:Dom σ L)(h:Lvl Q Lf σ.marks σ.trail bs ds σ.doms):Lvl Q Lf σ'.marks σ'.trail bs ds σ'.doms:=by
 induction R with
 |nil=>exact h
 |snoc σ' L' k l v ls R hk hv hne J _ ih=>exact ih.strike (e:=teK k l v ls) _ ((R.dom D).at hk)
theorem Run.firsts(R:Run Q σ L σ' L'):σ'.firsts=σ.firsts:=by
 induction R with
 |nil=>rfl
 |snoc σ' L' k l v ls R hk hv hne J _ ih=>exact ih
theorem Pre.tt(P:Pre Q Lf σ L ds bs)(R:Run Q σ L σ' L')(Pj:Prj Q L L')(hr:∃r,Row0 Q L r)(hn:Lf.length=Q.n):Inv Q Lf σ' L' ds bs:=
 have sz:=R.size
 have s1:=P.sz
 have s2:=P.sn
 ⟨⟨R.dom P.D,R.len.trans P.n,by rw[R.firsts];exact P.firsts,aE sz.1 s1,aE sz.2 s2,P.decs,R.lvl P.D P.lvl⟩,
  λξ=>⟨⟨Pj.len.trans (P.n.trans hn.symm),λk l v hl=>(Pj.mem k l v hl).trans ⟨λ⟨r,a,b⟩=>⟨r,(P.row r).mp a,b⟩,λ⟨r,a,b⟩=>⟨r,(P.row r).mpr a,b⟩⟩⟩,hr.imp λr a=>(P.row r).mp a⟩,
  λz=>by rw[R.failed,P.nf] at z;cases z⟩
theorem Pre.ff(P:Pre Q Lf σ L ds bs)(ls:List Lit)(no:∀r,¬Row0 Q L r):Inv Q Lf {σ with failed:=true,clash:=ls} L ds bs:=
 ⟨⟨⟨P.D.doms,P.D.sub,P.D.ne⟩,P.n,P.firsts,P.sz,P.sn,P.decs,P.lvl⟩,λz=>(nomatch z),λξ r h=>no r ((P.row r).mpr h)⟩
theorem Inv.dec(I:Inv Q Lf σ L ds bs)(hn:Lf.length=Q.n)(nf:σ.failed=false){t:Lit}{k:Nat}{l:List Int}(h:Dec Q.n t k)(hk:L[k]?=some l)(ne:l.filter (hX t.2.1 t.2.2)≠[]) :
  Pre Q Lf (yF {σ with marks:=σ.marks++[(σ.trail.length:Int)]} (k+1) t none (-1) (mkD l)) (L.set k (l.filter (hX t.2.1 t.2.2))) (ds++[t]) (bs++[L]):=by
 have D1:Dom {σ with marks:=σ.marks++[(σ.trail.length:Int)]} L:=⟨I.D.doms,I.D.sub,I.D.ne⟩
 have E:=JI h D1 hk ne
 obtain⟨P,hr⟩:=I.ok nf
 obtain⟨es,e1,e2,e3,e4⟩:=E.trail
 have nn:=E.nn
 have ts:=CZ (l':=l.filter (hX t.2.1 t.2.2)) hk
 have sz:=I.sz
 have sn:=I.sn
 have e1:(yF {σ with marks:=σ.marks++[(σ.trail.length:Int)]} (k+1) t none (-1) (mkD l)).trail=σ.trail++es:=e1
 have nn:(yF {σ with marks:=σ.marks++[(σ.trail.length:Int)]} (k+1) t none (-1) (mkD l)).nn+(l.filter (hX t.2.1 t.2.2)).length≤σ.nn+l.length:=nn
 have em:(yF {σ with marks:=σ.marks++[(σ.trail.length:Int)]} (k+1) t none (-1) (mkD l)).marks=σ.marks++[(σ.trail.length:Int)]:=E.marks
 have hd:LX Q.n (ds++[t]):=λu hu=>(bQ.mp hu).elim (I.decs u) λz=>⟨k,by rw[aG.mp z];exact h⟩
 refine⟨⟨E.dom,by rw[bR];exact I.n,by rw[E.firsts];exact I.firsts,by rw[e1,aD];exact Tm (Nat.add_assoc _ _ _▸fO e4 _) ts sz,Tm nn ts sn,hd,?_⟩,E.failed.trans nf,λr=>?_⟩
 ·rw[em,e1]
  refine .up _ _ _ _ _ L t es ?_ ⟨I.D.sub,I.D.ne,I.n,P,hr⟩ I.sz ?_ λe he=>?_
  ·rw[←I.D.doms];exact I.lvl
  ·rw[E.undo es e1];exact I.D.doms
  ·have kl:=(aB.mp hk).1
   rw[e3 e he,E.dom.doms,cT,aA,bR]
   exact Nat.succ_lt_succ kl
 ·rw[IO h hk,Qe P I.decs hn]
  exact⟨λz=>⟨z.1.toRow0,λu hu=>(bQ.mp hu).elim (z.1.say u) λy=>by rw[aG.mp y];exact z.2⟩,λz=>⟨⟨z.toRow0,λu hu=>z.say u (cG _ hu)⟩,z.say t (dW _ aZ)⟩⟩
inductive Se(Q:Cq)(Lf:List (List Int))(σ:Sr)(ds:List Lit)(bs:List (List (List Int))):Prop
 |mk (ms:List Int) (tr es:List Te) (L':List (List Int)) (ds':List Lit) (t:Lit) (bs':List (List (List Int))):ds=ds'++[t]→bs=bs'++[L']→Ty σ ms tr es→Inv Q Lf (GX σ ms tr es) L' ds' bs'→(GX σ ms tr es).failed=false→Se Q Lf σ ds bs
theorem Inv.pop(I:Inv Q Lf σ L ds bs)(hne:ds≠[]):Se Q Lf σ ds bs:=by
 have key:∀ms tr doms,Lvl Q Lf ms tr bs ds doms→ms=σ.marks→tr=σ.trail→doms=σ.doms→Se Q Lf σ ds bs:=λms tr doms h=>by
  have d2:=I.decs
  revert d2 hne
  refine h.casesOn (motive:=λms tr bs ds doms ξ=>ds≠[]→LX Q.n ds→ms=σ.marks→tr=σ.trail→doms=σ.doms→Se Q Lf σ ds bs) (λtr doms q=>absurd rfl q) λms tr bs ds doms L' t es h V z u v ξ hd e1 e2 e3=>?_
  subst e3
  have ff:(GX σ ms tr es).failed=false:=decide_eq_false I.firsts
  refine .mk ms tr es L' ds t bs rfl rfl ⟨e1.symm,e2.symm,v⟩ ⟨⟨⟨u,V.sub,V.ne⟩,V.len,I.firsts,z,?_,λt ht=>hd t (cG _ ht),?_⟩,λξ=>⟨V.prj,V.row⟩,λq=>by rw[ff] at q;cases q⟩ ff
  ·show 0+tot L'≤_
   lia
  ·show Lvl Q Lf ms tr bs ds (undo σ.doms es)
   rw[u];exact h
 exact key _ _ _ I.lvl rfl rfl rfl
end
noncomputable def Ck(s:St):Bk:=St.casesOn (motive_1:=λξ=>Bk) s (λξ=>.nil) (λξ=>.nil) .nil (λξ ξ=>.nil) (λξ ξ ξ ξ=>.nil) (λξ ξ b=>b) (λξ b=>b) λξ ξ b=>b
noncomputable def mI:Bk:=qW (gH 10 jY)
noncomputable def VJ:Bk:=qW (gH 1 mI)
noncomputable def wJ:Bk:=qW (gH 0 (Ck (gH 1 mI)))
noncomputable def Bp:Bk:=qW (gH 2 wJ)
noncomputable def Mut(sc:Sc)(nd nb m:Nat):Prop:=sc.In m∨m=nd∨m=nb
structure Fx(M:Nat→Prop)(w:W)(Q:Cq)(Lf rows:List (List Int))(xs:List Int)(c:Cc)(nl p nr n0:Nat):Prop where
 cd:sW w Q c
 m:¬M c.q∧¬M c.W∧¬M c.L∧¬M c.H
 lf:LsX M w nl Lf
 so:At w p (.list (tk Q.n))
 mp:¬M p
 hr:At w nr (.list (rows.map iT))
 mr:¬M nr
 src:At w n0 (.list (xs.map .int))
 m0:¬M n0
theorem AC{M M':Nat→Prop}{w:W}{m:Nat}{d:hW}(q:∀m,M' m→M m∨w.next≤m)(h:At w m d)(e:¬M m):¬M' m:=λz=>(q m z).elim e λy=>eF.mpr h.lt y
theorem Fx.go{M M':Nat→Prop}{w w':W}{Q:Cq}{Lf rows:List (List Int)}{xs:List Int}{c:Cc}{nl p nr n0:Nat}(h:Fx M w Q Lf rows xs c nl p nr n0)(f:Fm M w w')(q:∀m,M' m→M m∨w.next≤m):Fx M' w' Q Lf rows xs c nl p nr n0:=
 ⟨⟨f.keep _ _ h.m.1 h.cd.ns,f.keep _ _ h.m.2.1 h.cd.ws,f.keep _ _ h.m.2.2.1 h.cd.los,f.keep _ _ h.m.2.2.2 h.cd.his⟩,⟨AC q h.cd.ns h.m.1,AC q h.cd.ws h.m.2.1,AC q h.cd.los h.m.2.2.1,AC q h.cd.his h.m.2.2.2⟩,h.lf.go f q,
  f.keep _ _ h.mp h.so,AC q h.so h.mp,f.keep _ _ h.mr h.hr,AC q h.hr h.mr,f.keep _ _ h.m0 h.src,AC q h.src h.m0⟩
structure Bf(M:Nat→Prop)(w:W)(qs:List Nat)(bs:List (List (List Int))):Prop where
 len:qs.length=bs.length
 at_:∀(i q:Nat) b,qs[i]?=some q→bs[i]?=some b→LsX M w q b
theorem Bf.go{M M':Nat→Prop}{w w':W}{qs:List Nat}{bs:List (List (List Int))}(h:Bf M w qs bs)(f:Fm M w w')(q:∀m,M' m→M m∨w.next≤m):Bf M' w' qs bs:=⟨h.len,λi n b h1 h2=>(h.at_ i n b h1 h2).go f q⟩
structure Lw(Q:Cq)(Lf rows:List (List Int))(xs:List Int)(c:Cc)(nl p nr n0 nd nb:Nat)(σ:Sr)(sc:Sc)(ds:List Lit)(bs:List (List (List Int)))(qs:List Nat)(w:W):Prop where
 fx:Fx (Mut sc nd nb) w Q Lf rows xs c nl p nr n0
 S:iP w σ sc
 cd:At w nd (.list (ds.map iG))
 cb:At w nb (.list (qs.map .ref))
 bf:Bf (Mut sc nd nb) w qs bs
 id:¬sc.In nd
 ib:¬sc.In nb
 ne:nd≠nb
section
variable{Q:Cq}{Lf rows:List (List Int)}{xs:List Int}{c:Cc}{nl p nr n0 nd nb:Nat}{σ σ':Sr}{sc sc':Sc}{ds:List Lit}{bs:List (List (List Int))}{qs:List Nat}{w w':W}
theorem Lw.far(h:Lw Q Lf rows xs c nl p nr n0 nd nb σ sc ds bs qs w):Far w sc Q c:=⟨h.fx.cd,λz=>h.fx.m.1 (.inl z),λz=>h.fx.m.2.1 (.inl z),λz=>h.fx.m.2.2.1 (.inl z),λz=>h.fx.m.2.2.2 (.inl z)⟩
theorem Lw.keep(h:Lw Q Lf rows xs c nl p nr n0 nd nb σ sc ds bs qs w)(f:Fm0 w w'):Lw Q Lf rows xs c nl p nr n0 nd nb σ sc ds bs qs w':=
 ⟨h.fx.go f.up λm z=>.inl z,h.S.keep0 f,f.at h.cd,f.at h.cb,h.bf.go f.up λm z=>.inl z,h.id,h.ib,h.ne⟩
theorem Lw.sto(h:Lw Q Lf rows xs c nl p nr n0 nd nb σ sc ds bs qs w)(T:gU w sc w' σ' sc'):Lw Q Lf rows xs c nl p nr n0 nd nb σ' sc' ds bs qs w':=
 have f:Fm (Mut sc nd nb) w w':=T.fm.weak λm z=>.inl z
 have q:∀m,Mut sc' nd nb m→Mut sc nd nb m∨w.next≤m:=λm z=>z.elim (λz=>(T.cells m z).imp .inl λy=>y) λz=>.inl (.inr z)
 ⟨h.fx.go f q,T.at_,(T.fix h.cd h.id).1,(T.fix h.cb h.ib).1,h.bf.go f q,(T.fix h.cd h.id).2,(T.fix h.cb h.ib).2,h.ne⟩
theorem Lw.setd(h:Lw Q Lf rows xs c nl p nr n0 nd nb σ sc ds bs qs w)(ds':List Lit){l:List V}(e:l=ds'.map iG):Lw Q Lf rows xs c nl p nr n0 nd nb σ sc ds' bs qs (w.set nd (.list l)):=
 have f:Fm (· = nd) w (w.set nd (.list l)):=(Fm.refl (M:=(· = nd))).set (.inl rfl) _
 have f2:Fm (Mut sc nd nb) w (w.set nd (.list l)):=f.weak λm z=>.inr (.inl z)
 ⟨h.fx.go f2 λm z=>.inl z,h.S.keep f λm z e=>h.id (e▸z),e▸h.cd.put _,h.cb.set h.ne.symm _,h.bf.go f2 λm z=>.inl z,h.id,h.ib,h.ne⟩
theorem Lw.setb(h:Lw Q Lf rows xs c nl p nr n0 nd nb σ sc ds bs qs w)(qs':List Nat)(bs':List (List (List Int))){l:List V}(e:l=qs'.map .ref)(b:Bf (Mut sc nd nb) w qs' bs'):Lw Q Lf rows xs c nl p nr n0 nd nb σ sc ds bs' qs' (w.set nb (.list l)):=
 have f:Fm (· = nb) w (w.set nb (.list l)):=(Fm.refl (M:=(· = nb))).set (.inl rfl) _
 have f2:Fm (Mut sc nd nb) w (w.set nb (.list l)):=f.weak λm z=>.inr (.inr z)
 ⟨h.fx.go f2 λm z=>.inl z,h.S.keep f λm z e=>h.ib (e▸z),h.cd.set h.ne _,e▸h.cb.put _,b.go f2 λm z=>.inl z,h.id,h.ib,h.ne⟩
theorem Lw.mut(h:Lw Q Lf rows xs c nl p nr n0 nd nb σ sc ds bs qs w):∀m,Mut sc nd nb m→m<w.next:=λm z=>by
 rcases z with z | rfl | rfl
 ·exact h.S.lt m z
 ·exact h.cd.lt
 ·exact h.cb.lt
theorem Bf.snoc{M:Nat→Prop}{b:List (List Int)}{q:Nat}(h:Bf M w qs bs)(x:LsX M w q b):Bf M w (qs++[q]) (bs++[b]):=by
 refine⟨by rw[aD,aD,h.len];rfl,λi n l h1 h2=>?_⟩
 by_cases e:i<qs.length
 ·rw[aJ e] at h1
  rw[aJ (h.len▸e)] at h2
  exact h.at_ i n l h1 h2
 ·have:i=qs.length:=mH h1 e
  subst this
  rw[cN] at h1
  rw[h.len,cN] at h2
  rw[←Option.some.inj h1,←Option.some.inj h2];exact x
inductive BfL(M:Nat→Prop)(w:W)(qs:List Nat)(bs:List (List (List Int)))(b:List (List Int)):Prop | mk (qs':List Nat) (q:Nat):qs=qs'++[q]→LsX M w q b→Bf M w qs' bs→BfL M w qs bs b
theorem Bf.last{M:Nat→Prop}{b:List (List Int)}(h:Bf M w qs (bs++[b])):BfL M w qs bs b:=by
 have hl:=h.len
 rw[aD,bI] at hl
 rcases (List.eq_nil_or_concat qs) with rfl | ⟨qs',q,rfl⟩
 ·cases hl
 ·rw[List.concat_eq_append] at h hl ⊢
  rw[aD,bI] at hl
  have hl:qs'.length=bs.length:=eY.inj hl
  refine .mk qs' q rfl (h.at_ qs'.length q b (by rw[cN]) (by rw[hl,cN])) ⟨hl,λi n l h1 h2=>?_⟩
  have:=(aB.mp h1).1
  exact h.at_ i n l (by rw[aJ this];exact h1) (by rw[aJ (hl▸this)];exact h2)
end
noncomputable abbrev lwV(v0 v1 v3 v4 v5:V)(nl:Nat)(Q:Cq)(s p:Nat)(c:Cc)(nr nd nb:Nat)(v11 v15 v16 v17 v18 v19:V):List V:=[v0,v1,.ref nl,v3,v4,v5,lG Q,.obj 0 s,.ref p,.obj 2 c.q,.int 1,v11,.ref nr,.ref nd,.ref nb,v15,v16,v17,v18,v19]
inductive LwI(Q:Cq)(Lf rows:List (List Int))(xs:List Int)(c:Cc)(nl p nr n0 nd nb:Nat)(v0 v1 v3 v4 v5:V)(j:Nat):List V→W→Prop
 |mk (σ:Sr) (sc:Sc) (L:List (List Int)) (ds:List Lit) (bs:List (List (List Int))) (qs:List Nat) (v11 v15 v16 v17 v18 v19:V) (w:W):Lw Q Lf rows xs c nl p nr n0 nd nb σ sc ds bs qs w→Inv Q Lf σ L ds bs→ds.length≤j→LwI Q Lf rows xs c nl p nr n0 nd nb v0 v1 v3 v4 v5 j (lwV v0 v1 v3 v4 v5 nl Q sc.s p c nr nd nb v11 v15 v16 v17 v18 v19) w
structure Ls(Q:Cq)(Lf rows:List (List Int)):Prop where
 O:Q.Val
 lf:Lok Lf
 n:Lf.length=Q.n
 R:Pp Q rows Lf
section
variable{G:List Int}{C:Cl}{w:W}{Q:Cq}{Lf rows L:List (List Int)}{xs:List Int}{c:Cc}{nl p nr n0 nd nb j:Nat}{v0 v1 v3 v4 v5:V}{σ:Sr}{sc:Sc}{ds:List Lit}{bs:List (List (List Int))}{qs:List Nat}
theorem RW(h1:Av C)(h2:iR C)(Z:Ls Q Lf rows)(h:Lw Q Lf rows xs c nl p nr n0 nd nb σ sc ds bs qs w)(I:Inv Q Lf σ L ds bs)(hj:ds.length≤j)(hne:ds≠[])(v11 v15 v16 v17 v18 v19:V) :
  GoS (bkW G C VJ) (lwV v0 v1 v3 v4 v5 nl Q sc.s p c nr nd nb v11 v15 v16 v17 v18 v19) w (LwI Q Lf rows xs c nl p nr n0 nd nb v0 v1 v3 v4 v5 (j+1)):=λK2 kk=>(I.pop hne).casesOn λms tr es L' ds' t bs' e1 e2 po I' ff=>by
 refine ok (gG h.S.ns (by decide)) (h1 sc σ ms tr es po w _ h.S λw1 sc1 T=>?_)
 have h1':=h.sto T
 have ld:(ds.map iG).getLast?=some (iG t):=by rw[e1,aI];exact List.getLast?_concat
 refine ok (fQ h1'.cd) (ok (fQ h1'.cd) (ok (zZ ld) ?_))
 have h2':=h1'.setd ds' (l:=(ds.map iG).dropLast) (by rw[e1,aI];exact List.dropLast_concat)
 rw[←T.same]
 refine h2 Q c _ sc1 L' _ _ Z.O.toOk h2'.far h2'.S I'.D I'.n λw3 n f3 N=>?_
 have h3':=h2'.keep f3
 rw[e2] at h3'
 refine h3'.bf.last.casesOn λqs' q eq X B=>?_
 have lq:(qs.map V.ref).getLast?=some (.ref q):=by rw[eq,aI];exact List.getLast?_concat
 refine ok (fQ h3'.cb) (ok (fQ h3'.cb) (ok (zZ lq) ?_))
 have f4:Fm (Mut sc1 nd nb) w3 (w3.set nb (.list (qs.map V.ref).dropLast)):=(Fm.refl (M:=Mut sc1 nd nb)).set (.inl (.inr (.inr rfl))) _
 have h4':=h3'.setb qs' bs' (l:=(qs.map V.ref).dropLast) (by rw[eq,aI];exact List.dropLast_concat) B
 have N4:=((N.far h2'.mut).go f4 (M':=Mut sc1 nd nb) λm z=>.inl z).ls
 have X4:=(X.go f4 (M':=Mut sc1 nd nb) λm z=>.inl z).ls
 refine ok (NG N4 X4) (nB (λq=>absurd rfl q) λξ=>ok (fld h4'.S.ns (by decide) rfl rfl) ?_)
 show Bool.rec (motive:=λξ=>Prop) _ _ (GX σ ms tr es).failed
 refine bF ff (kk _ _ (.mk _ sc1 L' ds' bs' qs' _ _ _ _ _ _ _ h4' I' ?_))
 rw[e1,aD] at hj
 exact aE (bW hj) (bW Nat.le.refl)
end
theorem Lz{n k:Nat}(h:k<n):(tk n)[k]?=some (nv (k+1)):=by unfold tk;rw[aK,cI h];rfl
theorem Lvl.len{Q:Cq}{Lf:List (List Int)}{ms:List Int}{tr:List Te}{bs:List (List (List Int))}{ds:List Lit}{doms:List Dm}(h:Lvl Q Lf ms tr bs ds doms):bs.length=ds.length∧ms.length=ds.length:=by
 induction h with
 |base=>exact⟨rfl,rfl⟩
 |up ms tr bs ds doms L t es _ _ _ _ _ ih =>
  rw[aD,aD,aD,ih.1,ih.2]
  exact⟨rfl,rfl⟩
section
variable{G:List Int}{C:Cl}{w wa:W}{Q:Cq}{Lf rows L:List (List Int)}{xs:List Int}{c:Cc}{nl p nr n0 nd nb j r:Nat}{v0 v1 v3 v4 v5:V}{σ:Sr}{sc:Sc}{ds:List Lit}{bs:List (List (List Int))}{qs:List Nat}
theorem yO{w1 w2:W}(f:Fm0 wa w1)(hr:wa.next≤r)(g:Fm (· = r) w1 w2):Fm0 wa w2:=f.fresh g λm e=>.inr (e▸hr)
theorem YC(h1:jX C)(O:Q.Ok)(h:Lw Q Lf rows xs c nl p nr n0 nd nb σ sc ds bs qs wa)(f:Fm0 wa w)(hr:wa.next≤r){x:Int}(cr:At w r (.list [.int x]))(v11 v15 v17 v18 v19:V) :
  GoS (stW G C (gH 0 wJ)) (lwV v0 v1 v3 v4 v5 nl Q sc.s p c nr nd nb v11 v15 (.ref r) v17 v18 v19) w (λρ w'=>∃k s x',k<Q.n∧s<4∧ρ=lwV v0 v1 v3 v4 v5 nl Q sc.s p c nr nd nb v11 v15 (.ref r) (nv (k+1)) (.str s) v19∧Fm0 wa w'∧At w' r (.list [.int x'])):=λK2 kk=>by
 have n4:=O.n
 have n0:(0:Int)<(Q.n:Nat):=cH.mpr (aM (by decide) n4.1)
 have z1:=nG (x:=x) n0
 refine ok (tS (f.at h.fx.so) (Ly Q.n)) (h1 r x (Q.n:Nat) w _ cr n0 (cH.mpr (aQ n4.2 (by decide))) λw1 c1 f1=>?_)
 have g1:=yO f hr f1
 have z2:=nG (x:=x.fdiv (Q.n:Nat)) (m:=4) (by decide)
 refine ok (FJ (g1.at h.fx.so) (j:=(x.fmod (Q.n:Nat)).toNat) (dA z1.1).symm (Lz ((Int.toNat_lt z1.1).mpr z1.2))) (h1 r _ 4 w1 _ c1 (by decide) (by decide) λw2 c2 f2=>?_)
 have g2:=yO g1 hr f2
 have s4:((x.fdiv (Q.n:Nat)).fmod 4).toNat<4:=(Int.toNat_lt z2.1).mpr z2.2
 have es:([V.str 0,.str 1,.str 2,.str 3])[((x.fdiv (Q.n:Nat)).fmod 4).toNat]?=some (.str ((x.fdiv (Q.n:Nat)).fmod 4).toNat):=by
  exact iX (P:=λs=>([V.str 0,.str 1,.str 2,.str 3])[s]?=some (.str s)) (iX (iX (iX (λξ h=>absurd h (cU _)) rfl) rfl) rfl) rfl _ s4
 exact ok (wO (k:=((x.fdiv (Q.n:Nat)).fmod 4).toNat) (dA z2.1).symm es) (kk _ _ ⟨_,_,_,(Int.toNat_lt z1.1).mpr z1.2,s4,rfl,g2,c2⟩)
theorem YB(h1:jX C)(f:Fm0 wa w)(hr:wa.next≤r){x:Int}(cr:At w r (.list [.int x])){k s0:Nat}(s:Nat)(v11 v15 v19:V) :
  GoS (stW G C (gH 1 wJ)) (lwV v0 v1 v3 v4 v5 nl Q s0 p c nr nd nb v11 v15 (.ref r) (nv (k+1)) (.str s) v19) w (λρ w'=>∃z,z∈wE∧ρ=lwV v0 v1 v3 v4 v5 nl Q s0 p c nr nd nb v11 v15 (.ref r) (nv (k+1)) (.str s) (iG (((k+1:Nat):Int),s,z))∧Fm0 wa w'):=λK2 kk =>
 h1 r x 6 w _ cr (by decide) (by decide) λw1 c1 f1=>kk _ _ ⟨x.fmod 6,IZ (nG (by decide)),rfl,yO f hr f1⟩
theorem Xy(h2:iR C)(O:Q.Ok)(h:Lw Q Lf rows xs c nl p nr n0 nd nb σ sc ds bs qs w)(I:Inv Q Lf σ L ds bs)(hj:ds.length≤100)(v11 v15 v16 v17 v18 v19:V) :
  GoS (stW G C (gH 0 Bp)) (lwV v0 v1 v3 v4 v5 nl Q sc.s p c nr nd nb v11 v15 v16 v17 v18 v19) w (λρ w'=>∃q,ρ=lwV v0 v1 v3 v4 v5 nl Q sc.s p c nr nd nb v11 v15 v16 v17 v18 v19∧Lw Q Lf rows xs c nl p nr n0 nd nb σ sc ds (bs++[L]) (qs++[q]) w'):=λK2 kk=>by
 have l3:lim=100000:=rfl
 have hl:=I.lvl.len.1
 have hq:=h.bf.len
 refine ok (fQ h.cb) (h2 Q c σ sc L w _ O h.far h.S I.D I.n λw1 n f1 N=>?_)
 have h1':=h.keep f1
 refine ok (fQ h1'.cb) (ok (gZ h1'.cb (by rw[aA];lia)) (kk _ _ ⟨n,rfl,h1'.setb (qs++[n]) (bs++[L]) (by rw[aI];rfl) (h1'.bf.snoc (N.far h.mut))⟩))
theorem Xx(h:Lw Q Lf rows xs c nl p nr n0 nd nb σ sc ds bs qs w)(hj:ds.length≤100)(t:Lit)(v11 v15 v16 v17 v18:V) :
  GoS (stW G C (gH 1 Bp)) (lwV v0 v1 v3 v4 v5 nl Q sc.s p c nr nd nb v11 v15 v16 v17 v18 (iG t)) w (λρ w'=>ρ=lwV v0 v1 v3 v4 v5 nl Q sc.s p c nr nd nb v11 v15 v16 v17 v18 (iG t)∧Lw Q Lf rows xs c nl p nr n0 nd nb σ sc (ds++[t]) bs qs w'):=λK2 kk=>by
 have l3:lim=100000:=rfl
 exact ok (fQ h.cd) (ok (fQ h.cd) (ok (gZ h.cd (by rw[aA];lia)) (kk _ _ ⟨rfl,h.setd (ds++[t]) (by rw[aI];rfl)⟩)))
theorem Xw(h1:oG C)(h:Lw Q Lf rows xs c nl p nr n0 nd nb σ sc ds bs qs w)(hm:σ.marks.length<lim)(v11 v15 v16 v17 v18 v19:V) :
  GoS (stW G C (gH 2 Bp)) (lwV v0 v1 v3 v4 v5 nl Q sc.s p c nr nd nb v11 v15 v16 v17 v18 v19) w (λρ w'=>∃sc',ρ=lwV v0 v1 v3 v4 v5 nl Q sc'.s p c nr nd nb v11 v15 v16 v17 v18 v19∧Lw Q Lf rows xs c nl p nr n0 nd nb {σ with marks:=σ.marks++[(σ.trail.length:Int)]} sc' ds bs qs w'):=λK2 kk =>
 ok (gG h.S.ns (by decide)) (h1 sc σ hm w _ h.S λw1 sc1 T=>kk _ _ ⟨sc1,by rw[T.same],h.sto T⟩)
theorem Pre.sb(Z:Ls Q Lf rows)(h:Lw Q Lf rows xs c nl p nr n0 nd nb σ sc ds bs qs w)(P:Pre Q Lf σ L ds bs):Sb Q L rows σ w sc c nr:=by
 have tl:=rY Z.lf.sub
 have l4:=Z.lf.len
 have sz:=P.sz
 have sn:=P.sn
 exact⟨⟨⟨Z.O,P.n,P.D.sub,P.D.ne⟩,P.D,⟨by lia,by lia⟩,h.far,h.S⟩,P.nf,h.fx.hr,λz=>h.fx.mr (.inl z),⟨Z.R.toRws,λr hr=>Z.R.has r ((P.row r).mp hr).toRow0⟩,by lia,by lia⟩
theorem Xv(h1:jL C)(h2:jS C)(Z:Ls Q Lf rows){t:Lit}{k:Nat}{l:List Int}(hk:Dec Q.n t k)(el:L[k]?=some l)(ne:l.filter (hX t.2.1 t.2.2)≠[]){σp:Sr}(ep:σp={σ with marks:=σ.marks++[(σ.trail.length:Int)]})(h:Lw Q Lf rows xs c nl p nr n0 nd nb σp sc (ds++[t]) (bs++[L]) qs w)(I:Inv Q Lf σ L ds bs)(nf:σ.failed=false)(hj:ds.length≤j)(v11 v15 v16 v17 v18:V) :
  GoS (stW G C (gH 3 Bp)) (lwV v0 v1 v3 v4 v5 nl Q sc.s p c nr nd nb v11 v15 v16 v17 v18 (iG t)) w (LwI Q Lf rows xs c nl p nr n0 nd nb v0 v1 v3 v4 v5 (j+1)):=λK2 kk=>by
 have tl:=rY Z.lf.sub
 have l4:=Z.lf.len
 have sz:=I.sz
 have sn:=I.sn
 have Dp:Dom σp L:=by subst ep;exact⟨I.D.doms,I.D.sub,I.D.ne⟩
 have s1:σp.trail.length≤1000:=by subst ep;show σ.trail.length≤1000;lia
 have s2:σp.nn≤1000:=by subst ep;show σ.nn≤1000;lia
 have P:=I.dec Z.n nf hk el ne
 rw[←ep] at P
 refine ok (gG h.S.ns (by decide)) (h1 sc σp (k+1) t (mkD l) (Op hk Dp el s1 s2) w _ h.S λw2 sc2 T=>nB (λq=>absurd (λz=>ne ((vI hk (Dp.mem el)).mp z)) q) λξ=>?_)
 have h2':=h.sto T
 rw[←T.same]
 refine h2 Q c _ sc2 _ rows nr w2 _ (P.sb Z h2') (λw3 σ3 sc3 L3 T3 R Pj hr=>?_) λw3 sc3 ls T3 no=>?_
 ·rw[←T3.same]
  exact kk _ _ (.mk σ3 sc3 L3 _ _ qs _ _ _ _ _ _ w3 (h2'.sto T3) (P.tt R Pj hr Z.n) (by rw[aD,bI];simp +arith [*]))
 ·rw[←T3.same]
  exact kk _ _ (.mk _ sc3 _ _ _ qs _ _ _ _ _ _ w3 (h2'.sto T3) (P.ff ls no) (by rw[aD,bI];simp +arith [*]))
theorem VL(h1:iR C)(h2:oG C)(h3:jL C)(h4:jS C)(Z:Ls Q Lf rows){t:Lit}{k:Nat}{l:List Int}(hk:Dec Q.n t k)(el:L[k]?=some l)(ne:l.filter (hX t.2.1 t.2.2)≠[])(h:Lw Q Lf rows xs c nl p nr n0 nd nb σ sc ds bs qs w)(I:Inv Q Lf σ L ds bs)(nf:σ.failed=false)(hj:ds.length≤j)(j1:j≤100)(v11 v15 v16 v17 v18:V) :
  GoS (bkW G C Bp) (lwV v0 v1 v3 v4 v5 nl Q sc.s p c nr nd nb v11 v15 v16 v17 v18 (iG t)) w (LwI Q Lf rows xs c nl p nr n0 nd nb v0 v1 v3 v4 v5 (j+1)):=λK2 kk=>by
 have l3:lim=100000:=rfl
 have hl:=I.lvl.len.2
 show bkW G C (iU 0 Bp) _ _ _
 refine gP rfl (Xy h1 Z.O.toOk h I (by exact aE hj j1) _ _ _ _ _ _) λρ w1 zz=>?_
 obtain⟨q,e1,h1'⟩:=zz
 subst e1
 refine gP rfl (Xx h1' (by exact aE hj j1) t _ _ _ _ _) λρ w2 zz=>?_
 obtain⟨e2,h2'⟩:=zz
 subst e2
 refine gP rfl (Xw h2 h2' (by lia) _ _ _ _ _ _) λρ w3 zz=>?_
 obtain⟨sc3,e3,h3'⟩:=zz
 subst e3
 exact gP rfl (Xv h3 h4 Z hk el ne rfl h3' I nf hj _ _ _ _ _) λρ w4 h=>kk ρ w4 h
theorem YA(h0:nK C)(h1:iR C)(h2:oG C)(h3:jL C)(h4:jS C)(Z:Ls Q Lf rows){t:Lit}{k:Nat}(hk:Dec Q.n t k)(h:Lw Q Lf rows xs c nl p nr n0 nd nb σ sc ds bs qs w)(I:Inv Q Lf σ L ds bs)(nf:σ.failed=false)(hj:ds.length≤j)(j1:j≤100)(v11 v15 v16 v17 v18:V) :
  GoS (stW G C (gH 2 wJ)) (lwV v0 v1 v3 v4 v5 nl Q sc.s p c nr nd nb v11 v15 v16 v17 v18 (iG t)) w (LwI Q Lf rows xs c nl p nr n0 nd nb v0 v1 v3 v4 v5 (j+1)):=λK2 kk=>by
 obtain⟨l,el⟩:∃l,L[k]?=some l:=gat (by rw[I.n];exact hk.lt)
 refine ok (gG h.S.ns (by decide)) (h0 sc σ t (k+1) (mkD l) hk.var (I.D.at el) (oO (I.D.mem el)) hk.sign w _ h.S λw1 f1=>eB (λq=>?_) λq=>kk _ _ (.mk σ sc L ds bs qs _ _ _ _ _ _ w1 (h.keep f1) I (by exact Nat.le.step hj)))
 have ne:gW t.2.1 t.2.2 (mkD l)≠[]:=λz=>by
  rw[z] at q
  by_cases e:[]=mkD l
  ·rw[if_pos e] at q;exact absurd q (by decide)
  ·rw[if_neg e,if_pos rfl] at q;exact absurd q (by decide)
 exact VL h1 h2 h3 h4 Z hk el (λz=>ne ((vI hk (I.D.mem el)).mpr z)) (h.keep f1) I nf hj j1 _ _ _ _ _ _ kk
end
theorem NE{w:W}{n m:Nat}{ds:List Lit}(h:At w n (.list (ds.map iG)))(hm:At w m (.list []))(hd:∀t∈ds,t.2.1<4):jK .NotEq w (.ref n) (.ref m)=some (!ds.isEmpty):=by
 show Option.map (!·) (jK .Eq w (.ref n) (.ref m))=_
 rw[rA (oQ (k:=7) ds h λt ht=>Mr (k:=6) (by have:=hd t ht;exact bD (bD (hd t ht)))) hm];cases ds<;>rfl
section
variable{G:List Int}{C:Cl}{w wa:W}{Q:Cq}{Lf rows L:List (List Int)}{xs:List Int}{c:Cc}{nl p nr n0 nd nb j r:Nat}{v0 v1 v3 v4 v5:V}{σ:Sr}{sc:Sc}{ds:List Lit}{bs:List (List (List Int))}{qs:List Nat}
theorem XJ{c:Ce}{a b:Bk}{ρ:List V}{K:List V→Out→W→Prop}(h:Dz G C c ρ w λt w'=>bK t (bkW G C a ρ w' K) (bkW G C b ρ w' K)):stW G C (.ite c a b) ρ w K:=h
theorem Lw.src(h:Lw Q Lf rows xs c nl p nr n0 nd nb σ sc ds bs qs w){ys:List Int}{m:Nat}(a:At w m (.list (ys.map .int)))(b:¬Mut sc nd nb m):Lw Q Lf rows ys c nl p nr m nd nb σ sc ds bs qs w:=
 ⟨⟨h.fx.cd,h.fx.m,h.fx.lf,h.fx.so,h.fx.mp,h.fx.hr,h.fx.mr,a,b⟩,h.S,h.cd,h.cb,h.bf,h.id,h.ib,h.ne⟩
theorem Xz(g0:jX C)(h0:nK C)(h1:iR C)(h2:oG C)(h3:jL C)(h4:jS C)(Z:Ls Q Lf rows)(h:Lw Q Lf rows xs c nl p nr n0 nd nb σ sc ds bs qs wa)(I:Inv Q Lf σ L ds bs)(hj:ds.length≤j)(j1:j≤100)(f:Fm0 wa w)(hr:wa.next≤r){x:Int}(cr:At w r (.list [.int x]))(v11 v15 v17 v18 v19:V) :
  GoS (stW G C (gH 0 (Ck (gH 1 mI)))) (lwV v0 v1 v3 v4 v5 nl Q sc.s p c nr nd nb v11 v15 (.ref r) v17 v18 v19) w (LwI Q Lf rows xs c nl p nr n0 nd nb v0 v1 v3 v4 v5 (j+1)):=λK2 kk=>by
 have h':=h.keep f
 show stW G C (.ite (.not (.val (.attr (.var 7) 6))) wJ .nil) _ _ _
 refine XJ (ok (fld h'.S.ns (by decide) rfl rfl) ?_)
 show Bool.rec (motive:=λξ=>Prop) _ _ (!σ.failed)
 refine bB (λnf=>?_) λξ=>kk _ _ (.mk σ sc L ds bs qs _ _ _ _ _ _ w h' I (by exact Nat.le.step hj))
 have nf:σ.failed=false:=by simpa using nf
 show bkW G C (iU 0 wJ) _ _ _
 refine gP rfl (YC g0 Z.O.toOk h f hr cr _ _ _ _ _) λρ w1 zz=>?_
 obtain⟨k,s,x',hk,hs,e1,f1,c1⟩:=zz
 subst e1
 refine gP rfl (YB g0 f1 hr c1 s _ _ _) λρ w2 zz=>?_
 obtain⟨z,hz,e2,f2⟩:=zz
 subst e2
 exact gP rfl (YA h0 h1 h2 h3 h4 Z (t:=(((k+1:Nat):Int),s,z)) ⟨rfl,hk,hs,hz⟩ (h.keep f2) I nf hj j1 _ _ _ _ _) λρ w3 h=>kk ρ w3 h
theorem Ng(g0:jX C)(h0:nK C)(h1:iR C)(h2:oG C)(h3:jL C)(h4:jS C)(Z:Ls Q Lf rows)(h:Lw Q Lf rows xs c nl p nr n0 nd nb σ sc ds bs qs wa)(I:Inv Q Lf σ L ds bs)(hj:ds.length≤j)(j1:j≤100)(f:Fm0 wa w)(hr:wa.next≤r){x:Int}(cr:At w r (.list [.int x]))(v11 v15 v17 v18 v19:V) :
  GoS (bkW G C (Ck (gH 1 mI))) (lwV v0 v1 v3 v4 v5 nl Q sc.s p c nr nd nb v11 v15 (.ref r) v17 v18 v19) w (LwI Q Lf rows xs c nl p nr n0 nd nb v0 v1 v3 v4 v5 (j+1)):=λK2 kk=>by
 show bkW G C (iU 0 (Ck (gH 1 mI))) _ _ _
 exact gP rfl (Xz g0 h0 h1 h2 h3 h4 Z h I hj j1 f hr cr _ _ _ _ _) λρ w3 h=>kk ρ w3 h
theorem YE(x:Int)(s0:Nat)(v11 v16 v17 v18 v19:V):GoS (stW G C (gH 0 mI)) (lwV v0 v1 v3 v4 v5 nl Q s0 p c nr nd nb v11 (.int x) v16 v17 v18 v19) w
  (λρ w'=>ρ=lwV v0 v1 v3 v4 v5 nl Q s0 p c nr nd nb v11 (.int x) (.ref w.next) v17 v18 v19∧w'=w.add (.list [.int x])):=λK2 kk=>kk _ _ ⟨rfl,rfl⟩
theorem YD(g0:jX C)(g1:Av C)(h0:nK C)(h1:iR C)(h2:oG C)(h3:jL C)(h4:jS C)(Z:Ls Q Lf rows)(h:Lw Q Lf rows xs c nl p nr n0 nd nb σ sc ds bs qs wa)(I:Inv Q Lf σ L ds bs)(hj:ds.length≤j)(j1:j≤100)(f:Fm0 wa w)(hr:wa.next≤r){x:Int}(cr:At w r (.list [.int x]))(v11 v15 v17 v18 v19:V) :
  GoS (stW G C (gH 1 mI)) (lwV v0 v1 v3 v4 v5 nl Q sc.s p c nr nd nb v11 v15 (.ref r) v17 v18 v19) w (LwI Q Lf rows xs c nl p nr n0 nd nb v0 v1 v3 v4 v5 (j+1)):=λK2 kk =>
 g0 r x 4 w _ cr (by decide) (by decide) λw1 c1 f1=>by
  have fa:=yO f hr f1
  refine eB (λq=>?_) λq=>Ng g0 h0 h1 h2 h3 h4 Z h I hj j1 fa hr c1 _ _ _ _ _ _ kk
  have hd:∀t∈ds,t.2.1<4:=λt ht=>(I.decs t ht).elim λk z=>z.sign
  refine ok (NE ((fa.at h.cd).add _) (At.new _ _) hd) ?_
  have fa2:=fa.add (.list [])
  refine bB (λq=>?_) λq=>Ng g0 h0 h1 h2 h3 h4 Z h I hj j1 fa2 hr (c1.add _) _ _ _ _ _ _ kk
  exact RW g1 h1 Z (h.keep fa2) I hj (λe=>by rw[e] at q;cases q) _ _ _ _ _ _ _ kk
theorem LwI.at_{ρ:List V}(h:LwI Q Lf rows xs c nl p nr n0 nd nb v0 v1 v3 v4 v5 j ρ w):At w n0 (.list (xs.map .int)):=h.casesOn λσ sc L ds bs qs v11 v15 v16 v17 v18 v19 w h ξ ξ=>h.fx.src
theorem VK(g0:jX C)(g1:Av C)(h0:nK C)(h1:iR C)(h2:oG C)(h3:jL C)(h4:jS C)(Z:Ls Q Lf rows)(hx:xs.length≤100){ρ:List V}{K2:List V→Out→W→Prop}(h:LwI Q Lf rows xs c nl p nr n0 nd nb v0 v1 v3 v4 v5 0 ρ w)(kk:∀ρ w,LwI Q Lf rows xs c nl p nr n0 nd nb v0 v1 v3 v4 v5 xs.length ρ w→K2 ρ .go w) :
  ∃n,yE (lI (.var 15)) (BL G C (.var 15)) (bkW G C mI) n (.cell n0 0) ρ w K2:=by
 refine iD (xs:=xs) (enc:=.int) (Giv.cell (J:=λw'=>At w' n0 (.list (xs.map .int))) λw' h=>h) (LwI Q Lf rows xs c nl p nr n0 nd nb v0 v1 v3 v4 v5) (λξ ξ ξ h=>h.at_) h kk λj x hj ρ w' h R hR=>h.casesOn λσ sc L ds bs qs v11 v15 v16 v17 v18 v19 w1 h I hd=>?_
 have jl:=(aB.mp hj).1
 show bkW G C (iU 0 mI) (lwV v0 v1 v3 v4 v5 nl Q sc.s p c nr nd nb v11 (.int x) v16 v17 v18 v19) _ _
 refine gP rfl (YE x sc.s _ _ _ _ _) λρ w2 zz=>?_
 obtain⟨e1,e2⟩:=zz
 subst e1 e2
 exact gP rfl (YD g0 g1 h0 h1 h2 h3 h4 Z h I hd (by exact aE (bW jl) hx) (Fm.refl.add _) (aO _) (At.new _ _) _ _ _ _ _) λρ w3 h=>hR ρ w3 h
theorem RX(g0:jX C)(g1:Av C)(h0:nK C)(h1:iR C)(h2:oG C)(h3:jL C)(h4:jS C)(Z:Ls Q Lf rows){n1:Nat}{ys:List Int}(hy:ys.length≤100)(c1:At w n1 (.list (ys.map .int)))(h:Lw Q Lf rows xs c nl p nr n0 nd nb σ sc [] [] [] w)(I:Inv Q Lf σ L [] [])(v11 v15 v16 v17 v18 v19:V) :
  GoS (stW G C (gH 10 jY)) (lwV v0 (.ref n1) v3 v4 v5 nl Q sc.s p c nr nd nb v11 v15 v16 v17 v18 v19) w (λρ w'=>∃xs n0 j,j≤100∧LwI Q Lf rows xs c nl p nr n0 nd nb v0 (.ref n1) v3 v4 v5 j ρ w'):=λK2 kk=>by
 refine ok (tS c1 (aA ..)) ?_
 have go:∀(zs:List Int),zs.length≤100→∃n,yE (lI (.var 15)) (BL G C (.var 15)) (bkW G C mI) n (.cell w.next 0) (lwV v0 (.ref n1) v3 v4 v5 nl Q sc.s p c nr nd nb v11 v15 v16 v17 v18 v19) (w.add (.list (zs.map .int))) K2:=λzs hz=>by
  have f:Fm0 w (w.add (.list (zs.map .int))):=Fm.refl.add _
  have h':=(h.keep f).src (At.new w (.list (zs.map .int))) λz=>dR _ (h.mut _ z)
  exact VK g0 g1 h0 h1 h2 h3 h4 Z hz (.mk σ sc L [] [] [] _ _ _ _ _ _ _ h' I (aO _)) λρ w' h=>kk ρ w' ⟨_,_,_,hz,h⟩
 refine dB (λq=>?_) λq=>?_
 ·have ey:(ys.map V.int).drop 1=(ys.drop 1).map .int:=List.map_drop.symm
  have dr:=CH c1 (k:=1) (by rw[aA];lia)
  rw[ey] at dr
  exact ok dr (ok (fV (At.new w (.list ((ys.drop 1).map .int)))) (go (ys.drop 1) (by rw[List.length_drop];exact aE (Nat.sub_le _ _) hy)))
 ·exact ok (fV (At.new w (.list (([128,228,3,160]:List Int).map .int)))) (go [128,228,3,160] (by decide))
end
theorem RD{Q:Cq}{Lf A B:List (List Int)}{ds:List Lit}(a:Fu Q Lf ds A)(b:Fu Q Lf ds B)(sa:∀l∈A,l∈iE)(sb:∀l∈B,l∈iE):A=B:=by
 apply eX
 intro k
 by_cases q:k<Lf.length
 ·obtain⟨l,hl⟩:∃l,A[k]?=some l:=gat (by rw[a.len];exact q)
  obtain⟨m,hm⟩:∃m,B[k]?=some m:=gat (by rw[b.len];exact q)
  rw[hl,hm,EG (sa l (aF hl)) (sb m (aF hm)) λv=>(a.mem k l v hl).trans (b.mem k m v hm).symm]
 ·rw[bN (by rw[a.len];simp_all),bN (by rw[b.len];simp_all)]
noncomputable def kpB(Q:Cq)(r:List Int):Bool:=@decide (lD Q r) (Classical.propDecidable _)
theorem uT{Q:Cq}{r:List Int}:kpB Q r=true↔lD Q r:=@decide_eq_true_iff _ (Classical.propDecidable _)
theorem JS{a b:Bool}{p:Prop}(h1:a=true↔p)(h2:b=true↔p):a=b:=Bool.eq_iff_iff.mpr (h1.trans h2.symm)
noncomputable def qC(Q:Cq)(Lf:List (List Int)):List (List Int):=(jW Lf).filter (kpB Q)
theorem IT{L:List (List Int)}(h:L.length≤4)(h4:∀l∈L,l.length≤4):(jW L).length≤256:=by
 have:=zY h4 [[]]
 have h2:(4:Nat)^L.length≤4^4:=Nat.pow_le_pow_right (by decide) h
 rw[bI,Nat.mul_one] at this
 exact aE this h2
theorem Qc{Q:Cq}{Lf:List (List Int)}(hn:Lf.length=Q.n)(h4:∀l∈Lf,l.length≤4)(h:Lf.length≤4):Pp Q (qC Q Lf) Lf where
 all r hr:=by
  obtain⟨a,b⟩:=bX.mp hr
  exact⟨(rB.mp a).1.trans hn,uT.mp b⟩
 few:=aQ (aE (bZ _ _) (IT h h4)) (by decide)
 has r hr:=bX.mpr ⟨rB.mpr hr.wth,uT.mpr hr.keeps⟩
theorem PT(l:List (List Int))(r:List Int):((l.map λr=>PyData.tuple (r.map .int)).any λy=>PyData.eqv y (.tuple (r.map .int)))=decide (r∈l):=by
 induction l with
 |nil=>rfl
 |cons a l ih =>
  rw[aY,List.any_cons,ih,show PyData.eqv (.tuple (a.map .int)) (.tuple (r.map .int))=decide (a=r) from kA kT a r]
  by_cases q:a=r
  ·simp[q]
  ·have:r≠a:=λz=>q z.symm
   simp[q,this]
theorem Rf{w:W}{n:Nat}{r:List Int}{l:List (List Int)}(h:At w n (.list (l.map iT))):jK .In w (iT r) (.ref n)=some (decide (r∈l)):=by
 have h2:rds (rd w 8) (l.map iT)=some (l.map λr=>.tuple (r.map .int)):=uJ l λr ξ=>Bh (k:=7) r
 show((w.get n).bind λc=>hW.casesOn (motive:=λξ=>Option Bool) c (inL w (iT r)) (λkvs=>(kY (iT r)).map λi=>(kvs.lookup i).isSome) λξ=>none)=_
 rw[h.get]
 show((rd w 8 (iT r)).bind λp=>(rds (rd w 8) (l.map iT)).map λqs=>qs.any λy=>PyData.eqv y p)=_
 rw[h2,Bh (k:=7) r,←PT];rfl
noncomputable def Lx(Q:Cq):PyData:=.tuple [.str (lF 4),.tuple ((aX Q.n).map λk=>.int ((k+1:Nat):Int)),.tuple (Q.ws.map .int),.tuple (Q.los.map .int),.tuple (Q.his.map .int)]
theorem Mp{w:W}{k n:Nat}:rd w (k+1) (.tup (tk n))=some (.tuple ((aX n).map λk=>.int ((k+1:Nat):Int))):=GR (aX n) λk ξ=>lZ _
theorem IP{w:W}{Q:Cq}:rd w 8 (Hu Q)=some (Lx Q):=by
 show(rds (rd w 7) [.str 4,.tup (tk Q.n),iT Q.ws,iT Q.los,iT Q.his]).map PyData.tuple=_
 show(((rd w 7 (.str 4)).bind λa=>(((rd w 7 (.tup (tk Q.n))).bind λb=>(((rd w 7 (iT Q.ws)).bind λc=>(((rd w 7 (iT Q.los)).bind λd=>(((rd w 7 (iT Q.his)).bind λe=>some [e])).map (d::·))).map (c::·))).map (b::·))).map (a::·))).map PyData.tuple=_
 rw[IQ (by decide),Mp (k:=6),Bh (k:=6),Bh (k:=6),Bh (k:=6)];rfl
theorem Om(l:List Int):PyData.eqv (.tuple (l.map .int)) (.tuple (l.map .int))=true:=(kA kT l l).trans (decide_eq_true rfl)
theorem Ol(n:Nat):PyData.eqv (.tuple ((aX n).map λk=>.int ((k+1:Nat):Int))) (.tuple ((aX n).map λk=>.int ((k+1:Nat):Int)))=true:=by
 have:=Om ((aX n).map λk=>((k+1:Nat):Int))
 rwa [cL] at this
theorem Oj(Q:Cq):PyData.eqv (Lx Q) (Lx Q)=true:=by
 have:=IC 4 (by decide) 4 (by decide)
 show PyData.eqvAll _ _=true
 simp only[PyData.eqvAll,Om,Ol,Bool.and_true]
 rw[this];rfl
theorem RO{w:W}{Q:Cq}:jK .NotEq w (Hu Q) (Hu Q)=some false:=(uM IP IP (Oj Q)).trans rfl
theorem Xp{w:W}{n:Nat}:jK .NotEq w (.tup (tk n)) (.tup (tk n))=some false:=(uM (Mp (k:=7)) (Mp (k:=7)) (Ol n)).trans rfl
theorem VB{Q:Cq}{Lf:List (List Int)}(X:Ctx Q Lf):Pre Q Lf (srL Lf) Lf [] []:=
 ⟨⟨⟨rfl,X.sub,X.ne⟩,X.n,λh=>by
   rcases bJ.mp h with h | h
   ·cases h
   ·obtain⟨l,hl,e⟩:=bL.mp h
    exact X.ne l hl (uG l (X.sub l hl) e),bH (eJ _),bH (eJ _),(λt ht=>nomatch ht),.base _ _⟩,rfl,λr=>⟨λh=>⟨h,λt ht=>nomatch ht⟩,λh=>h.toRow0⟩⟩
theorem vJ{Q:Cq}{Lf:List (List Int)}(X:Ctx Q Lf):Lok Lf:=⟨by rw[X.n];exact X.O.n.2,X.sub,X.ne⟩
section
variable{G:List Int}{C:Cl}{w:W}{Q:Cq}{Lf L:List (List Int)}{c:Cc}{nl p nr n1 na nb nh s:Nat}{σ:Sr}{sc:Sc}
theorem la0:GoS (stW G C (gH 0 jY)) (.str 6::aV 19 .unset) w (λρ w'=>ρ=.str 6::.ref w.next::aV 18 .unset∧w'=w.add (.list ((G.take 6).map .int))):=λK2 kk=>kk _ _ ⟨rfl,by rw[List.map_take];rfl⟩
theorem la1(h1:yW C){ys:List Int}(c1:At w n1 (.list (ys.map .int))):GoS (stW G C (gH 1 jY)) (.str 6::.ref n1::aV 18 .unset) w
  (λρ w'=>∃Q Lf nl a b c,ρ=.str 6::.ref n1::.ref nl::.ref a::.ref b::.ref c::aV 14 .unset∧Fm0 w w'∧Ctx Q Lf∧iI w' nl Lf∧Wan w' a b c Q.ws Q.los Q.his):=λK2 kk=>by
 have go:∀i,C JH [.int i] w λd w'=>BL G C (.tup (.cons (.var 2) (.cons (.var 3) (.cons (.var 4) (.cons (.var 5) .nil))))) d (.str 6::.ref n1::aV 18 .unset) w' λρ w=>K2 ρ .go w:=λi=>h1 i w _ λw' Q Lf nl a b c f X hL Z=>kk _ _ ⟨Q,Lf,nl,a,b,c,rfl,f,X,hL,Z⟩
 refine ok (tS c1 (aA ..)) (dB (λq=>?_) λq=>go _)
 obtain⟨y,hy⟩:∃y,ys[0]?=some y:=gat (by have:(0:Int)<(ys.length:Nat):=q;simp_all)
 exact ok (fY (i:=0) (d:=.int y) c1 (by rw[aK,hy];rfl)) (go y)
theorem la2(Z:Wan w na nb nh Q.ws Q.los Q.his):GoS (stW G C (gH 2 jY)) (.str 6::.ref n1::.ref nl::.ref na::.ref nb::.ref nh::aV 14 .unset) w
  (λρ w'=>ρ=.str 6::.ref n1::.ref nl::.ref na::.ref nb::.ref nh::lG Q::aV 13 .unset∧w'=w):=λK2 kk=>ok (iW Z.ws) (ok (iW Z.los) (ok (iW Z.his) (kk _ _ ⟨rfl,rfl⟩)))
theorem la3(h1:sL C)(X:Ctx Q Lf)(hL:iI w nl Lf)(v3 v4 v5:V):GoS (stW G C (gH 3 jY)) (.str 6::.ref n1::.ref nl::v3::v4::v5::lG Q::aV 13 .unset) w
  (λρ w'=>∃sc p,ρ=.str 6::.ref n1::.ref nl::v3::v4::v5::lG Q::.obj 0 sc.s::.ref p::aV 11 .unset∧Fm0 w w'∧iP w' (srL Lf) sc∧sc.New w∧¬sc.In p∧At w' p (.list (tk Q.n))):=λK2 kk =>
 h1 Lf nl w _ hL (vJ X) λw' sc p S f N hp np c=>kk _ _ ⟨sc,p,rfl,f,S,N,np,by rw[X.n] at c;exact c⟩
theorem la4(h1:sP C)(O:Q.Ok)(cp:At w p (.list (tk Q.n)))(v3 v4 v5:V):GoS (stW G C (gH 4 jY)) (.str 6::.ref n1::.ref nl::v3::v4::v5::lG Q::.obj 0 s::.ref p::aV 11 .unset) w
  (λρ w'=>∃c,ρ=.str 6::.ref n1::.ref nl::v3::v4::v5::lG Q::.obj 0 s::.ref p::.obj 2 c.q::.int 1::aV 9 .unset∧Fm0 w w'∧sW w' Q c∧w.next≤c.q∧w.next≤c.W∧w.next≤c.L∧w.next≤c.H):=λK2 kk =>
 ok (iW cp) (h1 Q w.next _ _ O (At.new _ _) λw' c ec cd f b1 b2 b3=>⟨rfl,by
  have f0:Fm0 w w':=(Fm.refl.add _).fresh f λm e=>.inr (bH e.symm)
  have n4:=O.n
  exact ok (fY (i:=0) (f0.at cp) (Lz (by lia))) (kk _ _ ⟨c,by rw[ec];rfl,f0,cd,bH ec.symm,eZ b1,eZ b2,eZ b3⟩)⟩)
theorem la5(h1:rV C)(h2:yZ C)(X:Ctx Q Lf)(hL:iI w nl Lf)(Z:Wan w na nb nh Q.ws Q.los Q.his)(v7 v8 v9:V):GoS (stW G C (gH 5 jY)) (.str 6::.ref n1::.ref nl::.ref na::.ref nb::.ref nh::lG Q::v7::v8::v9::.int 1::aV 9 .unset) w
  (λρ w'=>∃nr,ρ=.str 6::.ref n1::.ref nl::.ref na::.ref nb::.ref nh::lG Q::v7::v8::v9::.int 1::.unset::.ref nr::aV 7 .unset∧Fm0 w w'∧w.next≤nr∧At w' nr (.list ((qC Q Lf).map iT))):=λK2 kk=>by
 have l3:lim=100000:=rfl
 have lk:=vJ X
 have h4:∀l∈Lf,l.length≤4:=λl h=>mZ l (X.sub l h)
 have pl:=IT lk.len h4
 have n4:=X.O.n
 refine h1 Lf nl w _ hL lk.len h4 λw1 p f1 hp cp=>ok (fV cp) (gM (jW Lf) iT (Giv.cell λw' (f:Fm0 w1 w')=>f.at cp) (kpB Q) iT (λr=>[iT r]) (λξ ξ=>rfl) (by show 0+(jW Lf).length≤lim;lia) (λr hr w2 f2 T F tt ff=>?_) λw2 f2=>kk _ _ ⟨_,rfl,(f1.trans f2).add _,(f1.trans f2).next,At.new _ _⟩)
 have rl:=(rB.mp hr).1.trans X.n
 refine h2 Q r na nb nh w2 _ X.O.toOk (Z.keep (f1.trans f2)) (by lia) λw3 b f3 hb=>?_
 rw[JS hb uT]
 exact bB (λq=>tt _ f3 q) λq=>ff _ f3 q
theorem la6(h1:Di C)(S:sW w Q c)(cp:At w p (.list (tk Q.n)))(v2 v3 v4 v5 v7:V)(r:List V):GoS (stW G C (gH 6 jY)) (.str 6::.ref n1::v2::v3::v4::v5::lG Q::v7::.ref p::.obj 2 c.q::r) w
  (λρ w'=>ρ=.str 6::.ref n1::v2::v3::v4::v5::lG Q::v7::.ref p::.obj 2 c.q::r∧w'=w):=λK2 kk=>by
 refine ok (gG S.ns (by decide)) (h1 Q c w _ S (ok (iW cp) ?_))
 refine ok (RO (w:=w) (Q:=Q)) ?_
 exact ok (fld S.ns (by decide) rfl rfl) (ok (iW cp) (ok (Xp (w:=w) (n:=Q.n)) (kk _ _ ⟨rfl,rfl⟩)))
theorem la7(h1:rV C)(h2:zB C)(X:Ctx Q Lf)(hL:iI w nl Lf)(S:sW w Q c)(hr:At w nr (.list ((qC Q Lf).map iT)))(v3 v4 v5 v6 v7 v8 v10 v11:V)(r:List V):GoS (stW G C (gH 7 jY)) (.str 6::.ref n1::.ref nl::v3::v4::v5::v6::v7::v8::.obj 2 c.q::v10::v11::.ref nr::r) w
  (λρ w'=>∃v11,ρ=.str 6::.ref n1::.ref nl::v3::v4::v5::v6::v7::v8::.obj 2 c.q::v10::v11::.ref nr::r∧Fm0 w w'):=λK2 kk=>by
 have lk:=vJ X
 have h4:∀l∈Lf,l.length≤4:=λl h=>mZ l (X.sub l h)
 have n4:=X.O.n
 refine h1 Lf nl w _ hL lk.len h4 λw1 p f1 hp cp=>ok (BX cp (j:=6) rfl) (ok (fV (At.new _ _)) ?_)
 have f2:Fm0 w (w1.add (.list (((jW Lf).map iT).take 6))):=f1.add _
 have c2:At (w1.add (.list (((jW Lf).map iT).take 6))) w1.next (.list (((jW Lf).take 6).map iT)):=(At.new _ _).cast List.map_take.symm
 refine iD (xs:=(jW Lf).take 6) (enc:=iT) (Giv.cell (J:=Fm0 (w1.add (.list (((jW Lf).map iT).take 6)))) λw' f=>f.at c2) (λj ρ w'=>(∃v11,ρ=.str 6::.ref n1::.ref nl::v3::v4::v5::v6::v7::v8::.obj 2 c.q::v10::v11::.ref nr::r)∧Fm0 (w1.add (.list (((jW Lf).map iT).take 6))) w') (λξ ξ ξ h=>h.2) ⟨⟨_,rfl⟩,.refl⟩ (λρ w' ⟨⟨v,e⟩,f⟩=>kk _ _ ⟨v,e,f2.trans f⟩) λj x hj ρ w' ⟨⟨v,e⟩,f⟩ R hR=>?_
 subst e
 have hx:x∈jW Lf:=dY (aF hj)
 have rl:=(rB.mp hx).1.trans X.n
 have f3:=f2.trans f
 have S3:=S.keep f3
 refine ok (gG S3.ns (by decide)) (h2 Q c x w' _ X.O.toOk S3 (by lia) λw4 b f4 hb=>ok (Rf (f4.at (f3.at hr))) ?_)
 have eb:b=decide (x∈qC Q Lf):=JS hb (decide_eq_true_iff.trans ⟨λz=>uT.mp (bX.mp z).2,λz=>bX.mpr ⟨hx,uT.mpr z⟩⟩)
 rw[←eb]
 exact bF (b:=!(b==b)) (by cases b<;>rfl) (hR _ _ ⟨⟨_,rfl⟩,f.trans f4⟩)
theorem la8(h1:jS C)(X:Ctx Q Lf)(b:Sb Q Lf (qC Q Lf) (srL Lf) w sc c nr)(v2 v3 v4 v5 v6 v8 v11:V)(r:List V):GoS (stW G C (gH 8 jY)) (.str 6::.ref n1::v2::v3::v4::v5::v6::.obj 0 sc.s::v8::.obj 2 c.q::.int 1::v11::.ref nr::r) w
  (λρ w'=>∃σ sc' L,ρ=.str 6::.ref n1::v2::v3::v4::v5::v6::.obj 0 sc'.s::v8::.obj 2 c.q::.int 1::v11::.ref nr::r∧gU w sc w' σ sc'∧Inv Q Lf σ L [] []):=λK2 kk =>
 h1 Q c _ sc Lf _ nr w _ b (λw' σ' sc' L' T R Pj hr=>kk _ _ ⟨σ',sc',L',by rw[T.same],T,(VB X).tt R Pj hr X.n⟩) λw' sc' ls T no=>kk _ _ ⟨_,sc',Lf,by rw[T.same],T,(VB X).ff ls no⟩
theorem la9(a b d e f g h i j k l m n o q r t u v x:V):GoS (stW G C (gH 9 jY)) [a,b,d,e,f,g,h,i,j,k,l,m,n,o,q,r,t,u,v,x] w
  (λρ w'=>ρ=[a,b,d,e,f,g,h,i,j,k,l,m,n,.ref w.next,.ref (w.next+1),r,t,u,v,x]∧w'=(w.add (.list [])).add (.list [])):=λK2 kk=>kk _ _ ⟨rfl,rfl⟩
end
noncomputable def Tj:Fn:=⟨1,20,none,jY⟩
theorem iI.far{M:Nat→Prop}{w:W}{n:Nat}{L:List (List Int)}(h:iI w n L)(q:∀m,M m→w.next≤m):LsX M w n L:=h.casesOn λrs x y z=>.mk rs x (λe=>eF.mpr x.lt (q n e)) y λk r l a b=>⟨z k r l a b,λe=>eF.mpr (z k r l a b).lt (q r e)⟩
section
variable{G:List Int}{C:Cl}
theorem aAb(h1:sQ C)(h2:iR C){w:W}{Q:Cq}{Lf rows L:List (List Int)}{xs:List Int}{c:Cc}{nl p nr n0 nd nb:Nat}{v0 v1 v3 v4 v5:V}{σ:Sr}{sc:Sc}{ds:List Lit}{bs:List (List (List Int))}{qs:List Nat}(Z:Ls Q Lf rows)(h:Lw Q Lf rows xs c nl p nr n0 nd nb σ sc ds bs qs w)(I:Inv Q Lf σ L ds bs)(hj:ds.length≤100)(v11 v15 v16 v17 v18 v19:V)(K2:List V→Out→W→Prop)(kk:∀ρ d w',d=V.bool true→K2 ρ (.ret d) w'):stW G C (gH 11 jY) (lwV v0 v1 v3 v4 v5 nl Q sc.s p c nr nd nb v11 v15 v16 v17 v18 v19) w K2:=by
 refine h1 Q Lf nl nd ds w _ Z.O Z.lf Z.n h.fx.lf.ls h.cd I.decs hj (λw1 n L' f hL' hs P hr=>?_) λw1 f no=>?_
 ·have h1':=h.keep f
  have nf:σ.failed=false:=fJ.mpr λz=>hr.elim λr q=>I.no z r q
  refine ok (fld h1'.S.ns (by decide) rfl rfl) ?_
  show Bool.rec (motive:=λξ=>Prop) _ _ σ.failed
  refine bF nf (h2 Q c σ sc L w1 _ Z.O.toOk h1'.far h1'.S I.D I.n λw2 m f2 N=>ok (ZJ (hL'.keep f2) N.ls) ?_)
  exact kk _ _ _ (congrArg V.bool (decide_eq_true (RD P (I.ok nf).1 hs I.D.sub)))
 ·have h1':=h.keep f
  have nf:σ.failed=true:=by
   cases q:σ.failed with
   |true=>rfl
   |false=>exact((I.ok q).2.elim λr z=>no r z).elim
  refine ok (fld h1'.S.ns (by decide) rfl rfl) ?_
  show Bool.rec (motive:=λξ=>Prop) _ _ σ.failed
  refine bT nf ?_
  show K2 _ (.ret (.bool (PyData.eqv .none .none))) _
  exact kk _ _ _ (congrArg V.bool (by simp[PyData.eqv]))
theorem Xd(a1:yW C)(a2:sL C)(a3:sP C)(a4:rV C)(a5:yZ C)(a6:Di C)(a7:zB C)(a8:jS C)(g0:jX C)(g1:Av C)(h0:nK C)(h1:iR C)(h2:oG C)(h3:jL C)(a9:sQ C)(w:W):gR G C Tj [.str 6] w (λd ξ=>d=.bool true):=by
 refine⟨rfl,?_⟩
 show bkW G C (iU 0 jY) (.str 6::aV 19 .unset) _ _
 refine gP rfl la0 λρ w1 zz=>?_
 obtain⟨e1,e2⟩:=zz
 subst e1 e2
 have l6:(G.take 6).length≤6:=cS▸Nat.min_le_left _ _
 have c1:=At.new w (.list ((G.take 6).map .int))
 refine gP rfl (la1 a1 c1) λρ w2 zz=>?_
 obtain⟨Q,Lf,nl,a,b,cc,e1,f2,X,hL,Z⟩:=zz
 subst e1
 have c2:=f2.at c1
 refine gP rfl (la2 Z) λρ w2' zz=>?_
 obtain⟨e1,e2⟩:=zz
 subst e1 e2
 refine gP rfl (la3 a2 X hL _ _ _) λρ w3 zz=>?_
 obtain⟨sc,p,e1,f3,S3,N3,np,cp⟩:=zz
 subst e1
 refine gP rfl (la4 a3 X.O.toOk cp _ _ _) λρ w4 zz=>?_
 obtain⟨c,e1,f4,cd,b1,b2,b3,b4⟩:=zz
 subst e1
 have f34:=f3.trans f4
 refine gP rfl (la5 a4 a5 X (hL.keep f34) (Z.keep f34) _ _ _) λρ w5 zz=>?_
 obtain⟨nr,e1,f5,hnr,hr⟩:=zz
 subst e1
 have f35:=f34.trans f5
 have f45:=f4.trans f5
 refine gP rfl (la6 a6 (cd.keep f5) (f45.at cp) _ _ _ _ _ _) λρ w5' zz=>?_
 obtain⟨e1,e2⟩:=zz
 subst e1 e2
 refine gP rfl (la7 a4 a7 X (hL.keep f35) (cd.keep f5) hr _ _ _ _ _ _ _ _ _) λρ w7 zz=>?_
 obtain⟨v11,e1,f7⟩:=zz
 subst e1
 have f37:=f35.trans f7
 have f47:=f45.trans f7
 have f57:=f5.trans f7
 have S7:=S3.keep0 f47
 have m3:∀m,w3.next≤m→¬sc.In m:=λm h=>S3.not_in h
 have rws:=Qc (Q:=Q) X.n (λl h=>mZ l (X.sub l h)) (vJ X).len
 have Fx7:Fx sc.In w7 Q Lf (qC Q Lf) Q.ws c nl p nr c.W:=
  ⟨cd.keep f57,⟨m3 _ b1,m3 _ b2,m3 _ b3,m3 _ b4⟩,(hL.far N3).keep f37,f47.at cp,np,f7.at hr,m3 _ (aE f4.next hnr),(f57.at cd.ws),m3 _ b2⟩
 have P0:=VB X
 have tl:=rY X.sub
 have n4:=X.O.n
 have n:=X.n
 have Sb7:Sb Q Lf (qC Q Lf) (srL Lf) w7 sc c nr:=⟨⟨⟨X.O,X.n,X.sub,X.ne⟩,P0.D,⟨cX _,cX _⟩,⟨Fx7.cd,Fx7.m.1,Fx7.m.2.1,Fx7.m.2.2.1,Fx7.m.2.2.2⟩,S7⟩,rfl,Fx7.hr,Fx7.mr,rws,cX _,cX _⟩
 refine gP rfl (la8 a8 X Sb7 _ _ _ _ _ _ _ _) λρ w8 zz=>?_
 obtain⟨σ,sc',L,e1,T,I⟩:=zz
 subst e1
 have Fx8:=Fx7.go T.fm T.cells
 have c8:=(T.fix (f37.at c2) λz=>eF.mpr c2.lt (N3 _ z)).1
 refine gP rfl (la9 _ _ _ _ _ _ _ _ _ _ _ _ _ _ _ _ _ _ _ _) λρ w9 zz=>?_
 obtain⟨e1,e2⟩:=zz
 subst e1 e2
 have f9:Fm0 w8 ((w8.add (.list [])).add (.list [])):=(Fm.refl.add _).add _
 have lw:Lw Q Lf (qC Q Lf) Q.ws c nl p nr c.W w8.next (w8.next+1) σ sc' [] [] [] ((w8.add (.list [])).add (.list [])):=
  ⟨Fx8.go f9.up λm z=>z.elim .inl λz=>.inr (by lia),T.at_.keep0 f9,(At.new w8 (.list [])).add _,At.new (w8.add (.list [])) (.list []),⟨rfl,λi q b h=>nomatch h⟩,T.at_.not_in (aO _),T.at_.not_in (eQ _),by exact bG (cV w8.next)⟩
 have Zs:Ls Q Lf (qC Q Lf):=⟨X.O,vJ X,X.n,rws⟩
 refine gP rfl (RX g0 g1 h0 h1 h2 h3 a8 Zs (by lia) (f9.at c8) lw I _ _ _ _ _ _) λρ w10 zz=>?_
 obtain⟨xs,n0,j,hj,h⟩:=zz
 refine h.casesOn λσ sc L ds bs qs v11 v15 v16 v17 v18 v19 w10 h I hd=>?_
 exact Da rfl (E:=λd ξ=>d=.bool true) (λK2 kk=>aAb a9 h1 Zs h I (by exact aE hd hj) _ _ _ _ _ _ K2 λρ d w' e=>kk ρ d w' e) λρ d w' e=>e
end
end
section
open PySem PySem.W PyProof.Rows
set_option genInjectivity false
theorem rL{α:Type}{f:α→Option α}:∀{l:List α},(∀p∈l,f p=some p)→l.filterMap f=l
 |[],_=>rfl
 |a::l,h=>by rw[List.filterMap_cons,h a aZ,rL λp hp=>h p (bA _ hp)]
theorem GA:∀(ns:List Str) (vs:List Value),ns.length=vs.length→ns.Nodup→ns.filterMap (λn=>((ns.zip vs).lookup n).map (n,·))=ns.zip vs∧∀n∈ns,((ns.zip vs).lookup n).isSome=true:=by
 intro ns vs hl hn
 have key:∀n∈ns,∃v,(ns.zip vs).lookup n=some v∧(n,v)∈ns.zip vs:=λn hm=>by
  obtain⟨i,hi,rfl⟩:=cQ hm
  have hm2:(ns[i],vs[i]'(hl▸hi))∈ns.zip vs:=CV (aC hi) (aC (hl▸hi))
  exact⟨_,mJ (by rw[qU _ _ (bH hl)];exact hn) hm2,hm2⟩
 refine⟨?_,λn hm=>by obtain⟨v,h,_⟩:=key n hm;rw[h];rfl⟩
 have e:ns.filterMap (λn=>((ns.zip vs).lookup n).map (n,·))=(ns.zip vs).filterMap λp=>((ns.zip vs).lookup p.1).map (p.1,·):=by
  conv=>lhs;rw[←qU ns vs (bH hl)]
  rw[List.filterMap_map,qU ns vs (bH hl)];rfl
 rw[e]
 have e2:∀p∈ns.zip vs,(((ns.zip vs).lookup p.1).map (p.1,·))=some p:=λp hp=>by
  rw[mJ (by rw[qU _ _ (bH hl)];exact hn) (show(p.1,p.2)∈_ from hp)];rfl
 exact rL e2
structure Sf(fd:FuncData)(names:List Str):Prop where
 pos:fd.params.posonlyargs=[]
 var:fd.params.vararg=none
 kwo:fd.params.kwonlyargs=[]
 kwa:fd.params.kwarg=none
 dfl:fd.defaults=.none
 args:fd.params.args.map (·.arg)=names
theorem HC{fd:FuncData}{names:List Str}(h:Sf fd names)(hn:names.Nodup)(vals:List Value)(hl:vals.length=names.length):bindArgs fd ⟨vals,[]⟩=pure (names.zip vals):=by
 obtain⟨h1,h2,h3,h4,h5,h6⟩:=h
 obtain⟨z1,z2⟩:=GA names vals hl.symm hn
 have e1:(List.filter (λn=>((names.zip vals).lookup n).isNone) names)=[]:=List.filter_eq_nil_iff.mpr λn hm=>by rw[cM,←Option.not_isSome_iff_eq_none];simp[z2 n hm]
 obtain⟨p1,p2,⟨a1,a2,a3,a4,a5,a6,a7⟩,p4,p5,p6,p7,q1,q2,q3,q4,q5,q6,q7,q8⟩:=fd
 dsimp only at h1 h2 h3 h4 h5 h6
 subst h1 h2 h3 h4 h5 h6
 generalize hN:List.map (λx:Arg=>x.arg) a2=N at *
 have n0:¬((decide (vals.length>N.length)&&(Option.isNone (none:Option Arg)))=true):=by rw[hl];simp
 have e3:List.drop (0-N.length) ([]:List Value)=[]:=List.drop_nil
 have n1:¬((!(List.filter (λn=>((N.zip vals).lookup n).isNone) (List.take (N.length-(List.drop (0-N.length) ([]:List Value)).length) N)).isEmpty)=true):=by rw[e3,List.length_nil,Nat.sub_zero,bM,e1];exact bC
 have e4:(List.drop (N.length-(List.drop (0-N.length) ([]:List Value)).length) N).zip (List.drop (0-N.length) ([]:List Value))=[]:=by rw[e3];exact List.zip_nil_right
 have z3:List.filterMap (λn=>Option.map (λx=>(n,x)) (List.lookup n (N.zip vals))) (N++[])=N.zip vals:=by rw[cD];exact z1
 subst hN
 refine Eq.trans (if_neg n0:(if _ then _ else _)=_) ?_
 refine Eq.trans (if_neg n1:(if _ then _ else _)=_) ?_
 exact Eq.trans (congrArg (λl:List (Str×Value)=>Bind.bind (m:=Sem) (forIn l _ _) _) e4) (congrArg (λl=>(pure l:Sem (List (Str×Value)))) z3)
noncomputable def gA:List (Nat×Nat×Addr):=[(2,0,28),(3,0,35),(4,0,40),(6,0,47),(7,0,54),(9,0,61),(10,0,66),(11,0,71),(12,0,78),(13,0,85),(14,0,92),(15,0,99),(16,0,106),(21,0,309),(25,0,444),(26,0,449),(27,0,454),(28,0,459),(29,0,466),(30,0,471),(31,0,476),(32,0,481),(33,0,486),(34,0,491),(35,0,496),(36,0,503),(37,0,510),(38,0,515)]
noncomputable def mA:List (Nat×Nat×Addr):=[(18,18,239),(18,1,120),(18,2,127),(18,4,141),(18,8,169),(18,11,190),(18,12,197),(18,13,204),(18,14,211),(18,15,218),(18,16,225),(18,17,232),(22,1,323),(22,2,328),(22,3,335),(22,4,342),(22,5,349),(22,6,354),(23,1,377),(23,4,396),(23,9,425),(23,10,432),(23,2,384),(23,3,389),(23,5,401),(23,6,408),(23,7,413),(23,8,418)]
noncomputable def sA:Nat×Nat×Addr:=(19,1,274)
noncomputable def FY(K:Frag)(f:Addr):Option FuncData:=(K.lookup f).bind λo=>match o.data with | .func fd=>some fd | _=>none
noncomputable def IF(b:FuncBody):Option (List Stmt):=match b with | .stmts s=>some s | _=>none
theorem VF{K:Frag}{f:Addr}{fd:FuncData}(h:FY K f=some fd):∃o,K.lookup f=some o∧o.data=.func fd:=by
 obtain⟨o,h1,h2⟩:=mR h
 refine⟨o,h1,?_⟩
 cases q:o.data<;>rw[q] at h2<;>first | cases h2 | skip
 rfl
theorem SV{b:FuncBody}{s:List Stmt}(h:IF b=some s):b=.stmts s:=by
 cases b<;>first | exact congrArg _ (Option.some.inj h) | cases h
noncomputable abbrev Sh:=Arguments×FuncBody×Scope
noncomputable def Jv(fd:FuncData):Sh:=(fd.params,fd.body,fd.scope)
noncomputable def DE(K:Frag)(f:Addr):Bool:=(FY K f).any λfd=>codeIn K fd.code fd.qualname&&(fd.globals==mainGlobals&&(fd.builtins==builtinsNs&&fd.defaults==.none))
noncomputable def DQ(F:Fn)(sh:Sh):Bool:=(IF sh.2.1).any λbody =>
 decide (sh.2.2.kind=.function)&&(!sh.2.2.isCoroutine&&(!sh.2.2.isGenerator&&(chF F sh.2.2 (gF sh.2.2) body&&((gF sh.2.2).length==F.nv&&(decide (F.np≤F.nv)&&(decide (gF sh.2.2).Nodup&&(sh.2.2.names.all (λp=>sh.2.2.names.lookup p.1==some p.2) &&
 (sh.1.posonlyargs.isEmpty&&(sh.1.vararg.isNone&&(sh.1.kwonlyargs.isEmpty&&(sh.1.kwarg.isNone&&(sh.1.args.map (·.arg)==(gF sh.2.2).take F.np))))))))))))
structure Px(K:Frag)(F:Fn)(f:Addr)(fd:FuncData)(sh:Sh):Prop where
 at_:FY K f=some fd
 shape:Jv fd=sh
 light:DE K f=true
 heavy:DQ F sh=true
theorem Ti{X:Pk}{F:Fn}{f:Addr}{fd:FuncData}{sh:Sh}(k:Px X.K F f fd sh):∃body,oJ X f F fd body:=by
 obtain⟨h0,rfl,h1,h⟩:=k
 obtain⟨body,h2,h⟩:=iZ h
 obtain⟨fd',e,h1⟩:=iZ h1
 obtain rfl:fd=fd':=Option.some.inj (h0.symm.trans e)
 simp only[dE,decide_eq_true_eq,dU,cF,cM,cC,beq_iff_eq,Jv] at h h1
 obtain⟨a4,a5,a6,a7,a8,a9,a10,a11,b1,b2,b3,b4,b6⟩:=h
 refine⟨body,VF h0,SV h2,h1.1,h1.2.1,h1.2.2.1,of_decide_eq_true a4,a5,a6,a7,a8,a9,of_decide_eq_true a10,λvals hl=>?_,a11⟩
 have hl2:((gF fd.scope).take F.np).length=F.np:=cS.trans (Nat.min_eq_left (aE ‹F.np≤F.nv› (bH (Eq.symm ‹(gF fd.scope).length=F.nv›))))
 exact HC ⟨b1,b2,b3,b4,h1.2.2.2,b6⟩ ((of_decide_eq_true a10).sublist (List.take_sublist _ _)) vals (hl.trans hl2.symm)
noncomputable def IW(K:Frag)(f:Addr):Bool:=(FY K f).any λfd=>fd.closure.isEmpty
noncomputable def IX(F:Fn)(sh:Sh):Bool:=F.sup.isNone&&sh.2.2.names.all (λp=>decide (p.2≠.free))
theorem JF{X:Pk}{F:Fn}{f:Addr}{fd:FuncData}{sh:Sh}(k:Px X.K F f fd sh)(h1:IW X.K f=true)(h2:IX F sh=true):BQ X f F:=by
 obtain⟨body,ok⟩:=Ti k
 obtain⟨h0,rfl,_,_⟩:=k
 obtain⟨fd',e,h1⟩:=iZ h1
 obtain rfl:fd=fd':=Option.some.inj (h0.symm.trans e)
 obtain⟨h2,h3⟩:=bS.mp h2
 exact⟨fd,body,ok,λp hp=>of_decide_eq_true (cC.mp h3 p hp),cF.mp h1,cM.mp h2⟩
noncomputable def XI(v:Value):Option Str:=match v with | .str s _=>some s | _=>none
noncomputable def Sw(vs:Array Value)(i:Nat):Option Str:=vs[i]?.bind XI
theorem Jo{vs:Array Value}{i:Nat}{s:Str}(h:Sw vs i=some s):∃t,vs[i]?=some (.str s t):=by
 obtain⟨v,e,h⟩:=aH.mp h
 cases v<;>first | exact⟨_,e.trans (congrArg (λs=>some (Value.str s _)) (Option.some.inj h))⟩ | exact nomatch h
noncomputable def OV(K:Frag)(a:Addr):Option (Array Value):=(K.lookup a).bind λo=>match o.data with | .fields vs=>some vs | _=>none
noncomputable def Vy(K:Frag)(a:Addr)(v:Value):Bool:=(K.lookup a).any λo=>match o.data with | .cell x=>x==some v | _=>false
noncomputable def Sz(v:Value):Option Addr:=match v with | .ref a=>some a | _=>none
theorem Jz{v:Value}{a:Addr}(h:Sz v=some a):v=.ref a:=by cases v<;>first | exact congrArg _ (Option.some.inj h) | cases h
noncomputable def TK(K:Frag)(cls2:Addr)(f:Addr):Bool:=(FY K f).any λfd=>(fd.closure.map (·.1)==[Str.ofString "__class__"])&&(fd.closure.all (λp=>Vy K p.2 (.ref cls2)) &&
 (Sz fd.code).any λcda=>(OV K cda).any λvs=>(Sw vs 2).any λfile=>(P.main.file:Str)==file)
noncomputable def Nv(F:Fn)(sh:Sh):Bool:=F.sup.isSome&&(decide (0<F.np)&&(sh.2.2.names.all (λp=>decide (p.2=.free)==false||p.1==Str.ofString "__class__")&&(sh.2.2.names.all (λp=>decide (p.2≠.cell)) &&
 ((sh.2.2.names.lookup (Str.ofString "super")==some .globalImplicit)&&((sh.2.2.names.lookup (Str.ofString "__class__")==some .free)&&(sh.1.posonlyargs++sh.1.args).head?.any λar=>(gF sh.2.2).head?==some ar.arg)))))
theorem Rd{X:Pk}{F:Fn}{f:Addr}{fd:FuncData}{sh:Sh}(k:Px X.K F f fd sh)(h1:TK X.K (X.cls 2) f=true)(h2:Nv F sh=true):Hg X f F:=by
 obtain⟨body,ok⟩:=Ti k
 obtain⟨h0,rfl,_,_⟩:=k
 obtain⟨fd',e,h1⟩:=iZ h1
 obtain rfl:fd=fd':=Option.some.inj (h0.symm.trans e)
 unfold Nv at h2
 simp only[dE,decide_eq_true_eq,cC,beq_iff_eq,Bool.or_eq_true,decide_eq_false_iff_not,Jv] at h1 h2
 obtain⟨a6,a7,a11⟩:=h1
 obtain⟨a2,a3,a4,a5,a8,a9,a10⟩:=h2
 obtain⟨es,he⟩:=cW.mp a2
 obtain⟨ar,r1,r2⟩:=iZ a10
 obtain⟨cda,c1,a12⟩:=iZ a11
 obtain⟨vs,c2,a13⟩:=iZ a12
 obtain⟨file,c3,a14⟩:=iZ a13
 obtain⟨c,hc⟩:∃c,fd.closure=[(Str.ofString "__class__",c)]:=by
  cases q:fd.closure with
  |nil=>rw[q] at a6;cases a6
  |cons p r =>
   rw[q] at a6
   cases r with
   |nil=>exact⟨p.2,by simp only[aY,List.map_nil,List.cons.injEq,and_true] at a6;rw[←a6]⟩
   |cons=>simp at a6
 refine⟨fd,body,c,cda,ar,file,es,ok,⟨λp hp hf=>?_,a5,hc,?_,r1,by simpa using r2,Jz c1,?_,a14,a8,a9,a3⟩,he⟩
 ·rcases a4 p hp with q | q
  ·exact absurd hf q
  ·exact q
 ·have:=a7 (Str.ofString "__class__",c) (by rw[hc];exact aZ)
  obtain⟨⟨oc,od,dat,sl⟩,k1,k2⟩:=iZ this
  cases dat<;>first | (cases k2;done) | skip
  refine⟨oc,od,sl,?_⟩
  rw[k1,eq_of_beq k2]
 ·obtain⟨⟨ccl,cdd,dat,ccs⟩,k1,k2⟩:=mR c2
  cases dat<;>first | (cases k2;done) | skip
  cases k2
  obtain⟨t,k3⟩:=Jo c3
  exact⟨ccl,cdd,_,ccs,t,k1,k3⟩
noncomputable def XK(s:Stmt):Option Sh:=if h:s.ctorIdx=0 then Stmt.FunctionDef.elim (motive_2:=λξ=>Option Sh) s h (λξ a b ξ ξ ξ sc ξ ξ ξ=>some (a,.stmts b,sc)) else none
noncomputable def Vw(s:Stmt):List Stmt:=if h:s.ctorIdx=2 then Stmt.ClassDef.elim (motive_2:=λξ=>List Stmt) s h (λξ ξ ξ b ξ ξ ξ ξ ξ ξ ξ=>b) else[]
noncomputable def yG(p:Nat×Nat×Addr):Option Sh:=P.main.body[p.1]?.bind λs=>Nat.casesOn p.2.1 (XK s) λj=>(Vw s)[j]?.bind XK
noncomputable def rS(c:Nat):Addr:=if c=0 then 256 else if c=1 then 357 else 435
noncomputable def ZP(K:Frag)(c:Nat):Bool:=plainGet K (rS c) Str.empty&&(hasDictIn K (rS c)&&(plainOver K (rS c)&&(makesIn K (rS c)&&(keepIn K (.ref (rS c))&&(decide (findIn K (.ref (rS c)) "__setattr__" = some (some (.builtin "object.__setattr__"))) &&
 (aX 20).all λf=>decide (findIn K (.ref (rS c)) (gY f)=some none))))))
noncomputable def gT:List ((Nat×Fn)×(Nat×Nat×Addr)):=fnL.zip gA
noncomputable def mT:List (((Nat×Nat)×Fn)×(Nat×Nat×Addr)):=mtL.zip mA
noncomputable def Xs(K:Frag)(x:((Nat×Nat)×Fn)×(Nat×Nat×Addr)):Bool:=decide (findIn K (.ref (rS x.1.1.1)) (mn x.1.1.2)=some (some (.ref x.2.2.2)))&&(isFn K (.ref x.2.2.2)&&(keepIn K (.ref x.2.2.2)&&(DE K x.2.2.2&&((x.1.2.sup.isSome||IW K x.2.2.2)&&(x.1.2.sup.isNone||TK K (rS 2) x.2.2.2)))))
noncomputable def Vc(K:Frag)(x:(Nat×Fn)×(Nat×Nat×Addr)):Bool:=keepIn K (.ref x.2.2.2)&&(DE K x.2.2.2&&IW K x.2.2.2)
noncomputable def XH(K:Frag):Bool:=(clsIn K (rS 2)).isSome&&(decide (mroIn K (rS 2) (.ref (rS 2))=some true)&&(decide (nsIn K cStatics "thirdparty.any" = some none) &&
 (decide (ks_superIn K (rS 2) (rS 2) (Str.ofString "__init__")=some (some (.ref sA.2.2)))&&(decide (typeIn K (.ref sA.2.2)=some (.type "function"))&&(fnIn K sA.2.2&&(DE K sA.2.2&&IW K sA.2.2))))))
noncomputable def kB(K:Frag):Bool:=(aX 3).all (ZP K)&&(gT.all (Vc K)&&(mT.all (Xs K)&&(XH K&&(K.lookup sysModules).isSome)))
noncomputable def gB(mg:Str→Option Value):Bool:=gT.all (λx=>decide (mg (nm x.1.1)=some (.ref x.2.2.2)))&&((aX 3).all (λc=>decide (mg (nm (24+c))=some (.ref (rS c))))&&((aX 10).all (λk=>decide (mg (nm k)=none))&&decide (mg (Str.ofString "super")=none)))
noncomputable def tM(K:Frag):List (Option Sh):=(gA++mA++[sA]).map λp=>(FY K p.2.2).map Jv
noncomputable def Hx:Bool:=gT.all (λx=>(yG x.2).any λsh=>DQ x.1.2 sh&&IX x.1.2 sh)&&(mT.all (λx=>(yG x.2).any λsh=>DQ x.1.2 sh&&(IX x.1.2 sh||Nv x.1.2 sh))&&((yG sA).any λsh=>DQ zM sh&&IX zM sh))
theorem zE{α β:Type}:∀{l:List α} {m:List β},l.length=m.length→∀{a:α},a∈l→∃b,(a,b)∈l.zip m
 |a::l,b::m,h,x,hx=>(bJ.mp hx).elim (λe=>⟨b,by rw[e];exact aZ⟩) λhx=>(zE (eY.inj h) hx).imp λξ=>bA _
theorem II{K:Frag}{p:Nat×Nat×Addr}{sh:Sh}(h:tM K=(gA++mA++[sA]).map yG)(hp:p∈gA++mA++[sA])(hs:yG p=some sh):∃fd,FY K p.2.2=some fd∧Jv fd=sh:=by
 have:(FY K p.2.2).map Jv=yG p:=List.map_inj_left.mp h p hp
 rw[hs] at this
 exact AI this
theorem Nl{X:Pk}(hc:X.cls=rS)(ht:Hx=true)(h1:kB X.K=true)(hs:tM X.K=(gA++mA++[sA]).map yG)(h2:gB X.mg=true)(h3:∀k,k<10→X.mb (nm k)=some (qS k))(h4:X.mb (Str.ofString "super")=some (.type "super")):KnownN X:=by
 unfold kB at h1
 unfold gB at h2
 unfold Hx at ht
 simp only[dE,cC,cK,decide_eq_true_eq] at h1 h2 ht
 obtain⟨k1,k5,k2,k3,k4⟩:=h1
 obtain⟨g1,g2,g3,g4⟩:=h2
 obtain⟨t1,t2,t3⟩:=ht
 have kc:∀c,c<3→_:=λc hlt=>by
  have:=k1 c hlt
  unfold ZP at this
  simpa only[dE,cC,cK,decide_eq_true_eq,←hc] using this
 unfold XH at k3
 simp only[dE,decide_eq_true_eq,←hc] at k3
 obtain⟨s1,s2,s3,s5,s6,s7,s8,s9⟩:=k3
 exact{
  mods:=by obtain⟨o,ho⟩:=cW.mp k4;rw[X.hK _ _ ho];rfl
  get:=λc hlt=>(kc c hlt).1
  has:=λc hlt=>(kc c hlt).2.1
  over:=λc hlt=>(kc c hlt).2.2.1
  set:=λc hlt=>(kc c hlt).2.2.2.2.2.1
  fld:=λc hlt=>(kc c hlt).2.2.2.2.2.2
  blt:=λk hk=>⟨g3 k hk,h3 k hk⟩
  fn:=λp hp=>by
   obtain⟨b,hb⟩:=zE (show fnL.length=gA.length from rfl) hp
   obtain⟨sh,e,q⟩:=iZ (t1 _ hb)
   obtain⟨q1,q2⟩:=bS.mp q
   obtain⟨fd,e1,e2⟩:=II hs (cG _ (cG _ (List.of_mem_zip hb).2)) e
   have z:=k5 _ hb
   unfold Vc at z
   simp only[dE] at z
   exact⟨b.2.2,g1 _ hb,z.1,JF ⟨e1,e2,z.2.1,q1⟩ z.2.2 q2⟩
  cls:=λc hlt=>⟨by rw[hc];exact g2 c hlt,(kc c hlt).2.2.2.2.1,(kc c hlt).2.2.2.1⟩
  meth:=λp hp=>by
   obtain⟨b,hb⟩:=zE (show mtL.length=mA.length from rfl) hp
   obtain⟨sh,e,q⟩:=iZ (t2 _ hb)
   obtain⟨q1,q2⟩:=bS.mp q
   obtain⟨fd,e1,e2⟩:=II hs (cG _ (dW _ (List.of_mem_zip hb).2)) e
   have z:=k2 _ hb
   unfold Xs at z
   simp only[dE,decide_eq_true_eq,←hc] at z
   refine⟨b.2.2,z.1,z.2.1,z.2.2.1,?_⟩
   rcases cR.mp q2 with q2 | q2
   ·refine .inl (JF ⟨e1,e2,z.2.2.2.1,q1⟩ ?_ q2)
    rcases cR.mp z.2.2.2.2.1 with y | y
    ·have:=(bS.mp q2).1
     rw[cM] at this
     rw[this] at y;cases y
    ·exact y
   ·refine .inr (Rd ⟨e1,e2,z.2.2.2.1,q1⟩ ?_ q2)
    rcases cR.mp z.2.2.2.2.2 with y | y
    ·have:=(bS.mp q2).1
     rw[cM] at y
     rw[y] at this;cases this
    ·exact y
  sup:=⟨g4,h4,cW.mp s1,s2,s3,sA.2.2,s5,s6,s7,by
   obtain⟨sh,e,q⟩:=iZ t3
   obtain⟨q1,q2⟩:=bS.mp q
   obtain⟨fd,e1,e2⟩:=II hs (dW _ aZ) e
   exact JF ⟨e1,e2,s8,q1⟩ s9 q2⟩}
end
section
open PySem PySem.W PySem.Calls PyProof.Rows
set_option genInjectivity false
set_option maxRecDepth 100000
set_option maxHeartbeats 0
noncomputable def Ca(tb:String→Option Builtin)(p:Program)(w:World)(n₀:Nat)(ann:Option Value):Nat→SharedT→Thread→Option SharedT:=Nat.rec (λξ ξ=>none) λξ R s t=>match through t with
 |true=>some s
 |false=>match stepOk n₀ ann t with
  |false=>none
  |true=>match stepT (denote tb) p w s t with
   |some (s',t')=>R s' t'
   |none=>none
theorem Jl{tb:String→Option Builtin}{p:Program}{w:World}{n₀:Nat}{ann:Option Value}:∀(n:Nat) (s s':SharedT) (t:Thread),Ca tb p w n₀ ann n s t=some s'→topRun tb p w n₀ ann n s.abs t=some s'.abs:=
 Nat.rec (λs s' t h=>nomatch h) λn ih s s' t h=>by
  have h:(match through t with
   |true=>some s
   |false=>match stepOk n₀ ann t with
    |false=>none
    |true=>match stepT (denote tb) p w s t with
     |some (s',t')=>Ca tb p w n₀ ann n s' t'
     |none=>none)=some s':=h
  unfold topRun
  cases ht:through t with
  |true=>rw[ht] at h;cases h;rfl
  |false =>
   rw[ht] at h
   cases hk:stepOk n₀ ann t with
   |false=>rw[hk] at h;cases h
   |true =>
    rw[hk] at h
    cases hs:stepT (denote tb) p w s t with
    |none=>rw[hs] at h;cases h
    |some r=>rw[hs] at h;rw[stepT_spec hs];exact ih _ _ _ h
noncomputable def T0(P:Params):BT:=([boot_o_0 P,boot_o_1 P,boot_o_2 P,boot_o_3 P,boot_o_4 P,boot_o_5 P,boot_o_6 P,boot_o_7 P,boot_o_8 P,boot_o_9 P,boot_o_10 P].foldl (λ(x:BT×Nat) o=>(x.1.ins x.2 o,x.2+1)) (BT.nil,0)).1
noncomputable def S0T(P:Params)(os:OsState):SharedT:=⟨T0 P,11,{},#[],{},181,os⟩
theorem Sd(P:Params)(os:OsState):(S0T P os).abs=⟨boot_heap P,#[],boot_drawn,boot_toks,os⟩:=by kernel_rfl
noncomputable abbrev rw0:OpenLaw:=PySem.Challenge.rw_no0327_01
noncomputable abbrev q0:Program:=view P [38]
noncomputable def tR:List Str:=P.boundNames.filter λn=>n !=Str.ofString "law"
noncomputable def Yy:List Addr:=[256,298,357,435,255,297,356,434,1,2,365,28,35,40,47,54,61,66,71,78,85,92,99,106,309,444,449,454,459,466,471,476,481,486,491,496,503,510,515,239,120,127,141,169,190,197,204,211,218,225,232,323,328,335,342,349,354,377,396,425,432,384,389,401,408,413,418,274,27,34,39,46,53,60,65,70,77,84,91,98,105,308,443,448,453,458,465,470,475,480,485,490,495,502,509,514,238,119,126,140,168,189,196,203,210,217,224,231,322,327,334,341,348,353,376,395,424,431,383,388,400,407,412,417,273]
noncomputable def rJ(h:Heap):Frag:=Yy.filterMap λa=>(h.get? a).map λo=>(a,o)
noncomputable def xt(s:Shared):Bool:=gB (s.heap.nsMap mainGlobals)
noncomputable def DD(P₀:Params)(s:Shared):Bool:=staticsOk (importedModules P.main.body) (boot_heap P₀) s.heap&&namesBound P s.heap&&gensDone s&&laidKept (boot_heap P₀) s.heap
theorem Xm:∀w:World,(fencedOpening treeTable P w 3200).map (λs=>(s.heap,s.gens,s.drawn,s.toks))=some (boot_heap w.params,Array.mk [],boot_drawn,boot_toks):=
 boot_open (by kernel_rfl) (by decide) λs=>by kernel_rfl
theorem Hw:Hx=true:=by kernel_rfl
theorem OH:∀(w:World) (os:OsState),(Ca treeTable P w 11 (some (.ref 6)) 3200 (S0T w.params os) (topStub P)).map (λs=>(DD w.params s.abs,openSeen q0 tR (importedModules P.main.body) xt true s.abs,kB (rJ s.abs.heap),tM (rJ s.abs.heap))) =
  some (true,openGood q0 tR,true,(gA++mA++[sA]).map yG):=by
 intro w os;kernel_rfl
noncomputable def Yf0(s:Shared):Bool×List (Option Sh):=(kB (rJ s.heap),tM (rJ s.heap))
noncomputable def Ya0(_:World):Bool×List (Option Sh):=(true,(gA++mA++[sA]).map yG)
theorem HB(P₀:Params):((boot_heap P₀).isNs mainGlobals&&(#[]:Array GenState).size==0,(boot_heap P₀).objs.size,(boot_heap P₀).nsMap mainGlobals "__annotations__")=(true,11,some (.ref 6)):=by kernel_rfl
theorem aA5(w:World)(os:OsState):∃s':SharedT,topRun treeTable P w 11 (some (.ref 6)) 3200 ⟨boot_heap w.params,#[],boot_drawn,boot_toks,os⟩ (topStub P)=some s'.abs∧(DD w.params s'.abs,openSeen q0 tR (importedModules P.main.body) xt true s'.abs,kB (rJ s'.abs.heap),tM (rJ s'.abs.heap))=(true,openGood q0 tR,true,(gA++mA++[sA]).map yG):=by
 obtain⟨s',r1,r2⟩:=bE.mp (OH w os)
 exact⟨s',Sd w.params os▸Jl _ _ _ _ r1,r2⟩
theorem Yx(w:World)(os:OsState)(s':SharedT)(r:topRun treeTable P w 11 (some (.ref 6)) 3200 ⟨boot_heap w.params,#[],boot_drawn,boot_toks,os⟩ (topStub P)=some s'.abs)(l1:DD w.params s'.abs=true):topFrom treeTable P w 3200 ⟨boot_heap w.params,#[],boot_drawn,boot_toks,os⟩=some s'.abs:=by
 have z:=HB w.params
 obtain⟨z1,z2,z3⟩:_∧_∧_:=by simpa only[Prod.mk.injEq] using z
 unfold topFrom
 dsimp only
 rw[z1,z2,z3,r]
 show(match DD w.params s'.abs with | true=>_ | false=>_)=_
 rw[l1]
theorem YH:LeftO P q0 tR xt Yf0 Ya0 3200:=λw=>by
 obtain⟨⟨h,gs,d,k,os⟩,e,e'⟩:=bE.mp (Xm w)
 obtain⟨rfl,rfl,rfl,rfl⟩:h=boot_heap w.params∧gs=Array.mk []∧d=boot_drawn∧k=boot_toks:=by simpa using e'
 obtain⟨s',r,r2⟩:=aA5 w os
 obtain⟨l1,l2⟩:=Prod.mk.inj r2
 obtain⟨l2,l3⟩:=Prod.mk.inj l2
 have t:=Yx w os s' r l1
 unfold openEnds
 rw[e,cE,t,eE]
 exact congrArg some (Prod.ext l2 l3)
noncomputable def YP0(_:World)(h:Heap):Prop:=∃K:Frag,K.In h∧kB K=true∧tM K=(gA++mA++[sA]).map yG
theorem Rj(h:Heap):(rJ h).In h:=λa o e=>by
 obtain⟨b,_,hb⟩:=List.mem_filterMap.mp (oV _ e)
 obtain⟨o',h1,h2⟩:=AI hb
 cases h2;exact h1
noncomputable def FG:Fn:=⟨1,20,none,jY⟩
noncomputable def w0:W:=⟨λξ=>none,0⟩
theorem We:(∀k,k<10→bootBuiltins (nm k)=some (qS k)∧(nm k==("__name__" : Str))=false)∧bootBuiltins (Str.ofString "super")=some (.type "super"):=by decide +kernel
theorem ZM:(defOf q0 rw0.name).isSome=true:=by kernel_rfl
noncomputable def d0:DefRec×List (Str×Expr):=(defOf q0 rw0.name).get ZM
theorem aAd:defOf q0 rw0.name=some (d0.1,d0.2):=(Option.some_get ZM).symm
theorem aA2:P.theDef rw0.name=some (d0.1.params,d0.1.body,d0.1.scope):=by kernel_rfl
theorem kw0:kwWritten? d0.1.params.kwonlyargs d0.1.params.kw_defaults=some d0.2:=by kernel_rfl
theorem Xq:d0.1.name=rw0.name:=by kernel_rfl
theorem XO:rw0.wellSaid=true:=by kernel_rfl
theorem ok0:(chainsOk q0&&opensWell P&&(frees rw0.row.toRowW&&rw0.row.toRowW.within.isEmpty))=true:=by kernel_rfl
theorem Xi:rw0.row.toRowW.promised:=⟨[.list []],by kernel_rfl,by kernel_rfl⟩
theorem ZV:P.bare:=⟨rfl,rfl,rfl,rfl,rfl,by kernel_rfl⟩
end
section
open PySem PySem.W PySem.Calls PyProof.Rows
set_option genInjectivity false
set_option maxRecDepth 100000
theorem oT:(∀k,k<10→bootBuiltins (nm k)=some (qS k))∧bootBuiltins (Str.ofString "super")=some (.type "super"):=by decide +kernel
theorem Ec:(∀k,k<10→nm k≠"__name__")∧Str.ofString "super"≠"__name__":=by decide +kernel
theorem Nj:nm 40=rw0.name:=by kernel_rfl
theorem DF:((40,FG),((38,0,515):Nat×Nat×Addr))∈gT:=by
 unfold gT fnL gA FG
 exact aF (i:=27) rfl
theorem VI{mg:Str→Option Value}(h:gB mg=true):mg rw0.name=some (.ref 515):=by
 unfold gB at h
 obtain⟨h,_⟩:=bS.mp h
 have:=of_decide_eq_true (cC.mp h _ DF)
 rw[←Nj];exact this
theorem Vf{X:Pk}(hk:kB X.K=true)(hs:tM X.K=(gA++mA++[sA]).map yG):BQ X 515 FG:=by
 have ht:=Hw
 unfold Hx at ht
 unfold kB at hk
 simp only[dE] at ht hk
 obtain⟨sh,e,q⟩:=iZ (cC.mp ht.1 _ DF)
 obtain⟨q1,q2⟩:=bS.mp q
 obtain⟨fd,e1,e2⟩:=II hs (cG _ (cG _ (List.of_mem_zip DF).2)) e
 have z:=cC.mp hk.2.1 _ DF
 unfold Vc at z
 simp only[dE] at z
 exact JF ⟨e1,e2,z.2.1,q1⟩ z.2.2 q2
set_option tactic.hygienic true in
theorem ZQ(H:∀ns:List Int,ns.length≤63→fS ns 40 FG [.str 6] w0 (λd ξ=>d=.bool true))(d:DefRec)(kwd:List (Str×Expr))(hn:d.name=rw0.name):WalkO q0 tR (λmg ξ=>gB mg=true) YP0 rw0.row.toRowW d kwd (λf vs=>call f vs):=by
 intro w s₀ s₁ mg mb G Y a o pm cd doc dV kV ho hd hcd hD hmg hg args vals as hpre hlay hrd hwl hlo
 wrow_args hpre hlay hrd hwl hlo
 rename_i ns h1 h2 h3 h4 h5 as1 as2 L vs as3 hL ra w1 r0 hI hr hc1 hc2
 obtain⟨K,k1,k2,k3⟩:=Y
 let X:Pk:={w:=w,h0:=s₁.heap,os:=s₁.os,cls:=rS,K:=K,mg:=mg,mb:=mb,hK:=k1,g:=G.T.g,b:=G.T.b,nolimit:=G.T.nolimit,ban:=λξ=>False,gl:=L,gis:=ns,gat:=⟨vs,hL,hI⟩,glen:=by omega}
 have Kn:jE ns X:=⟨Nl (X:=X) rfl Hw k2 k3 G.X (λk hk=>(G.T.builtins _ (Ec.1 k hk)).trans (oT.1 k hk)) ((G.T.builtins _ Ec.2).trans oT.2),rfl⟩
 have hf:a=515:=by
  have:=VI G.X
  rw[←hn,hmg] at this
  cases this;rfl
 subst hf
 have hlen:ns.length≤63:=by omega
 have hC:Cst X [] w0 s₁:=⟨rfl,.nil,λn c h=>(by cases h),λa ha=>(by cases ha),λa ha=>(by cases ha),λb o e=>e,hg,rfl,λa ha=>ha.elim⟩
 refine(PA (G:=ns) 40 _ _ _ _ (H ns hlen)).casesOn λdv w' hr hd=>?_
 subst hd
 have run:=(hr X Kn 515 (.inl (Vf (X:=X) k2 k3))).call [] s₁ callerA [.ref L] (.cons .giv .nil) hC ⟨rfl,by decide,by decide⟩
 refine wpAny_mono run (λv s' p=>?_) λξ ξ h=>h.elim
 cases p with | mk φ' T r =>
 rw[r.bool_inv]
 exact⟨.inl ⟨.bool true,.bool true,[],rfl,λcls=>rfl,.bool _,(by wrow_post),λξ=>⟨.nil,λa ha=>(by cases ha)⟩⟩,
  .of_keep λb o e=>T.keep b o e (λ⟨n,_,q⟩=>(by cases q)) (λq=>q),T.cst.os,.of_eq T.cst.gens⟩
theorem OC(H:∀ns:List Int,ns.length≤63→fS ns 40 FG [.str 6] w0 (λd ξ=>d=.bool true)):PySem.Challenge.rw_no0327_01.Holds:=
 holds_law XO λsaid=>holds_open (r:=rw0.row) (q:=q0) (loose:=tR) (Xt:=xt) (XP:=λmg ξ=>gB mg=true) (Yf:=Yf0) (Ya:=Ya0) (YP:=YP0) (N:=3200) YH (λw s e=>⟨rJ s.heap,Rj _,congrArg Prod.fst e,congrArg Prod.snd e⟩)
  (λw h h' y k=>y.elim λK z=>⟨K,λa o e=>k _ _ (z.1 a o e),z.2⟩) (λs e=>e) (λmg h h' e ξ=>e) aAd aA2 kw0 (λs e=>recFacts_nil rfl) rfl said ok0 ZV Xi (ZQ H d0.1 d0.2 Xq)
end
section
open PySem PySem.W
set_option genInjectivity false
section
variable{G:List Int}{C:Cl}
theorem Uz:Dn (gR G C):=λd v w K k=>Uq d v k
theorem Qw:yV (gR G C):=λd hd k w K h=>Qh d k (by have:=hd.len;have:lim=100000:=rfl;lia) h
theorem Uy:HY (gR G C):=λd hd w K h=>Uk d (by have:=hd.len;have:lim=100000:=rfl;lia) h
theorem Xh(h:Dn C):Po (gR G C):=λd v w K k=>Xe h d v (k _ .refl)
theorem BR(n:Nat):sN (fS G (n+1)):=KI (G:=G) (C:=fS G (n+0))
theorem GC(n:Nat):uB (fS G (n+1)):=GT (G:=G) (C:=fS G (n+0))
theorem UL(n:Nat):Hc (fS G (n+1)):=Us (G:=G) (C:=fS G (n+0))
theorem Lb(n:Nat):vQ (fS G (n+1)):=Mu (G:=G) (C:=fS G (n+0))
theorem Wh(n:Nat):Pn (fS G (n+1)):=Xc (G:=G) (C:=fS G (n+0))
theorem UM(n:Nat):Hd (fS G (n+1)):=Uu (G:=G) (C:=fS G (n+0))
theorem Hn(n:Nat):xX (fS G (n+1)):=Xf (G:=G) (C:=fS G (n+0))
theorem Ll(n:Nat):sO (fS G (n+1)):=Uw (G:=G) (C:=fS G (n+0))
theorem UH(n:Nat):oG (fS G (n+1)):=Un (G:=G) (C:=fS G (n+0))
theorem Wg(n:Nat):Av (fS G (n+1)):=Xa (G:=G) (C:=fS G (n+0))
theorem Ji(n:Nat):xC (fS G (n+1)):=KH (G:=G) (C:=fS G (n+0))
theorem QH(n:Nat):Dl (fS G (n+1)):=Qk (G:=G) (C:=fS G (n+0))
theorem Li(n:Nat):CR (fS G (n+1)):=Xb (G:=G) (C:=fS G (n+0))
theorem UK(n:Nat):Hb (fS G (n+1)):=Ur (G:=G) (C:=fS G (n+0))
theorem QK(n:Nat):yY (fS G (n+1)):=Qn (G:=G) (C:=fS G (n+0))
theorem QG(n:Nat):Dj (fS G (n+1)):=Qi (G:=G) (C:=fS G (n+0))
theorem UC(n:Nat):HX (fS G (n+1)):=Uh (G:=G) (C:=fS G (n+0))
theorem UD(n:Nat):Di (fS G (n+1)):=Ui (G:=G) (C:=fS G (n+0))
theorem QN(n:Nat):zB (fS G (n+1)):=Qv (G:=G) (C:=fS G (n+0))
theorem Lj(n:Nat):xD (fS G (n+1)):=Ut (G:=G) (C:=fS G (n+0))
theorem Ho(n:Nat):jX (fS G (n+1)):=Qt (G:=G) (C:=fS G (n+0))
theorem GB(n:Nat):rX (fS G (n+1)):=Um (G:=G) (C:=fS G (n+0))
theorem La(n:Nat):vP (fS G (n+1)):=Mt (G:=G) (C:=fS G (n+0))
theorem QL(n:Nat):yZ (fS G (n+1)):=Qq (G:=G) (C:=fS G (n+0))
theorem Ld(n:Nat):rV (fS G (n+1)):=Mv (G:=G) (C:=fS G (n+0))
theorem UJ(n:Nat):Dn (fS G (n+1)):=Uz (G:=G) (C:=fS G (n+0))
theorem Hk(n:Nat):yV (fS G (n+1)):=Qw (G:=G) (C:=fS G (n+0))
theorem UF(n:Nat):HY (fS G (n+1)):=Uy (G:=G) (C:=fS G (n+0))
theorem Wj(n:Nat):Po (fS G (n+2)):=Xh (G:=G) (C:=fS G (n+1)) (UJ (n+0))
theorem Je(n:Nat):wZ (fS G (n+2)):=KC (G:=G) (C:=fS G (n+1)) (Hk (n+0)) (BR (n+0))
theorem Du(n:Nat):vR (fS G (n+3)):=Mw (G:=G) (C:=fS G (n+2)) (Hk (n+1)) (BR (n+1)) (UL (n+1)) (Je (n+0))
theorem Jf(n:Nat):xA (fS G (n+4)):=KD (G:=G) (C:=fS G (n+3)) (Du (n+0))
theorem zF(n:Nat):oF (fS G (n+2)):=GS (G:=G) (C:=fS G (n+1)) (Wh (n+0)) (UM (n+0))
theorem UG(n:Nat):HZ (fS G (n+3)):=Ul (G:=G) (C:=fS G (n+2)) (Wj (n+0))
theorem QF(n:Nat):Dh (fS G (n+2)):=Qg (G:=G) (C:=fS G (n+1)) (UF (n+0))
theorem QM(n:Nat):nK (fS G (n+5)):=Qr (G:=G) (C:=fS G (n+4)) (Jf (n+0))
theorem Hm(n:Nat):zA (fS G (n+4)):=Qs (G:=G) (C:=fS G (n+3)) (Du (n+0)) (GC (n+2)) (Ll (n+2))
theorem Le(n:Nat):rW (fS G (n+5)):=Mx (G:=G) (C:=fS G (n+4)) (Hm (n+0))
theorem Dv(n:Nat):jL (fS G (n+5)):=Mz (G:=G) (C:=fS G (n+4)) (Hm (n+0))
theorem QJ(n:Nat):yX (fS G (n+2)):=Qm (G:=G) (C:=fS G (n+1)) (Li (n+0))
theorem UN(n:Nat):Do (fS G (n+2)):=Uv (G:=G) (C:=fS G (n+1)) (UK (n+0))
theorem Jg(n:Nat):xB (fS G (n+2)):=KF (G:=G) (C:=fS G (n+1)) (Li (n+0))
theorem Hp(n:Nat):sP (fS G (n+2)):=Qu (G:=G) (C:=fS G (n+1)) (QG (n+0)) (UC (n+0))
theorem Jh(n:Nat):sM (fS G (n+4)):=KG (G:=G) (C:=fS G (n+3)) (UG (n+0)) (QF (n+1))
theorem Ln(n:Nat):xE (fS G (n+3)):=Ux (G:=G) (C:=fS G (n+2)) (Li (n+1)) (Hn (n+1)) (zF (n+0))
theorem UE(n:Nat):Dk (fS G (n+6)):=Uj (G:=G) (C:=fS G (n+5)) (Jg (n+3)) (Lj (n+4)) (Ln (n+2)) (Le (n+0)) (Hn (n+4)) (Lb (n+4))
theorem UI(n:Nat):Ha (fS G (n+7)):=Up (G:=G) (C:=fS G (n+6)) (Jh (n+2)) (QK (n+5)) (QJ (n+4)) (Ln (n+3)) (Hn (n+5)) (zF (n+4)) (Ll (n+5)) (UN (n+4)) (Lj (n+5)) (UE (n+0))
theorem Lh(n:Nat):uA (fS G (n+8)):=Uo (G:=G) (C:=fS G (n+7)) (UI (n+0))
theorem BS(n:Nat):mE (fS G (n+2)):=KK (G:=G) (C:=fS G (n+1)) (GB (n+0))
theorem zG(n:Nat):lA (fS G (n+2)):=GW (G:=G) (C:=fS G (n+1)) (GB (n+0))
theorem CW(n:Nat):iR (fS G (n+2)):=Qo (G:=G) (C:=fS G (n+1)) (Hn (n+0))
theorem Hl(n:Nat):sL (fS G (n+2)):=Qj (G:=G) (C:=fS G (n+1)) (QH (n+0)) (Ji (n+0))
theorem QI(n:Nat):yW (fS G (n+2)):=Ql (G:=G) (C:=fS G (n+1)) (Ho (n+0))
theorem GD(n:Nat):qL (fS G (n+3)):=GV (G:=G) (C:=fS G (n+2)) (zG (n+0)) (GB (n+1)) (BS (n+0))
theorem Lg(n:Nat):jS (fS G (n+9)):=My (G:=G) (C:=fS G (n+8)) (CW (n+6)) (La (n+7)) (Lh (n+0)) (GD (n+5)) (zG (n+6)) (BS (n+6))
theorem Jj(n:Nat):sQ (fS G (n+9)):=KJ (G:=G) (C:=fS G (n+8)) (Hl (n+6)) (Hp (n+6)) (Dv (n+3)) (Lh (n+0)) (CW (n+6))
theorem Wi(w:W):fS G 40 Tj [.str 6] w (λd ξ=>d=.bool true):=Xd (G:=G) (C:=fS G 39) (QI 37) (Hl 37) (Hp 37) (Ld 38) (QL 38) (UD 38) (QN 38) (Lg 30) (Ho 38) (Wg 38) (QM 34) (CW 37) (UH 38) (Dv 34) (Jj 30) w
end
theorem Wf:PySem.Challenge.rw_no0327_01.Holds:=OC λns ξ=>Wi (G:=ns) w0
end
end Mine
theorem PySem.Challenge.cw_no0327_01_holds : PySem.Challenge.rw_no0327_01.Holds :=
 Mine.Wf
