import PyProof.Rows.All
import Wide.All
import OpenK.AllK
import Wide.FinOn
import HandS.ForMost
import HandS.Exc
import HandS.Lambda
import KE.KeyNested
import HandS.TupAny
import HandS.Deep
import KE.LtData
import KE.SortData
import HandS.IsInst
import HandS.ExcOwn
import HandS.NoneIn
import HandS.TryOnly
import HandS.WordsExc
import HandS.Words
import HandS.DictTup
import KE.KDictKeyed
import HandS.Conv
import HandS.TupSets
import HandS.TupLen
import HandS.SetKeys
import PyProof.P3In
import KE.KRevSl
import KE.KDictDisplayH
import HandS.Style
import KE.KDictExact
import HandS.DictComp
import HandS.ForExc
import KE.OsGo
import HandS.ExcSuper
import HandS.RevRange
import HandS.Codes
import PyProof.StrOps2
import PyProof.DictFindH
import HandS.StrMore
import KE.KDictWalk
import PyProof.ListRange
import PyProof.DictMoreH
import KE.SortKeyHeap
import HandS.RaiseMore
import HandS.FStr
import KE.DatumOrd
import HandS.EndTab
import HandS.EndBits
import KE.KExcIs
import HandS.ExcValue
import HandS.ExcIs
import PySem.Challenge.RW_slipworth_k00_errors
set_option Elab.async false
set_option linter.all false
set_option maxRecDepth 100000
set_option autoImplicit false
namespace DL
open PySem PySem.Spec PyProof.Rows L2
structure Kw where
 k:PySem.W.Frag
 w:World
 mg:Str->Option Value
instance:Coe Kw PySem.W.Frag:=⟨Kw.k⟩
abbrev _root_.L2.Cx.kw (X:Cx):Kw:=⟨X.K,X.w,X.mg⟩
inductive D where
 | non | bl (b:Bool) | int (i:Int) | str (x:List Nat) | tup (l:List D) | lst (l:List D) | iH (t:Bool) (l:List (D×D)) | fz (l:List D) | ob (c:Str) (fs:List Str) (l:List D)
mutual
def D.beq:D->D->Bool
 | .non, .non=>true
 | .bl a, .bl b=>a == b
 | .int a, .int b=>a == b
 | .str a, .str b=>a == b
 | .tup a, .tup b=>D.Fq a b
 | .lst a, .lst b=>D.Fq a b
 | .iH t a, .iH u b=>t == u && D.K7 a b
 | .fz a, .fz b=>D.Fq a b
 | .ob c f a, .ob d g b=>decide (c=d) && (decide (f=g) && D.Fq a b)
 | _,_=>false
def D.Fq:List D->List D->Bool
 | [],[]=>true
 | a :: l,b :: m=>D.beq a b && D.Fq l m
 | _,_=>false
def D.K7:List (D×D)->List (D×D)->Bool
 | [],[]=>true
 | (a,c) :: l,(b,d) :: m=>D.beq a b && D.beq c d && D.K7 l m
 | _,_=>false
end
mutual
theorem D.beq_iff:∀ (a b:D),D.beq a b=true↔a=b
 | .non,b=>by cases b <;> simp [D.beq]
 | .bl a,b=>by cases b <;> simp [D.beq]
 | .int a,b=>by cases b <;> simp [D.beq]
 | .str a,b=>by cases b <;> simp [D.beq]
 | .tup a,b=>by cases b <;> simp [D.beq,D.yH]
 | .lst a,b=>by cases b <;> simp [D.beq,D.yH]
 | .iH t a,b=>by cases b <;> simp [D.beq,D.Oj]
 | .fz a,b=>by cases b <;> simp [D.beq,D.yH]
 | .ob c f a,b=>by cases b <;> simp [D.beq,D.yH]
theorem D.yH:∀ (a b:List D),D.Fq a b=true↔a=b
 | [],b=>by cases b <;> simp [D.Fq]
 | a :: l,b=>by cases b <;> simp [D.Fq,D.beq_iff a,D.yH l]
theorem D.Oj:∀ (a b:List (D×D)),D.K7 a b=true↔a=b
 | [],b=>by cases b <;> simp [D.K7]
 | (a,c) :: l,b=>by
  cases b with
  | nil=>simp [D.K7]
  | cons x m=>cases x; simp [D.K7,D.beq_iff a,D.beq_iff c,D.Oj l]
end
instance:DecidableEq D:=fun a b=>decidable_of_iff (D.beq a b=true) (D.beq_iff a b)
instance:Inhabited D:=⟨.non⟩
def pG (x:List Nat):Bool:=x.all (fun c=>decide (c < 0x110000)) && decide (x.length≤sizeLine)
def kD:Key->D
 | .inl i => .int i
 | .inr s => .str s.cps.toList
mutual
def nk:D->Option NestedKey
 | .non=>some .none
 | .int i=>some (.num i)
 | .str x=>some (.text ⟨x.toArray⟩)
 | .tup l=>match JD l with
  | some ks=>some (.tup ks)
  | none=>none
 | _=>none
def JD:List D->Option (List NestedKey)
 | []=>some []
 | d :: l=>match nk d,JD l with
  | some k,some ks=>some (k :: ks)
  | _,_=>none
end
def Ol:(NestedKey×Addr×V)->(NestedKey×Addr×Value)->Prop:=fun e x=>x.1=e.1/\x.2.1=e.2.1/\RelV e.2.2 x.2.2
def NDH (w:World) (p:Addr) (ents:List (NestedKey×Addr×V)) (h:Heap):Prop:=ents.length≤sizeLine/\(p == sysModules)=false/\(ents.map (·.1)).Nodup/\(∀ e∈ents,e.1.depth≤8) /\
 ∃ xs:List (NestedKey×Addr×Value),Paired Ol ents xs/\∃ o es ep,h.get? p=some o/\o.ExactDict/\o.data = .dict es ep/\es.toList=xs.map fun x=>(⟨x.1.hash w, .ref x.2.1,x.2.2⟩:DictEntry)
def NDO (w:World) (p:Addr) (ents:List (NestedKey×Addr×V)):HO:=.ext (NDH w p ents)
def Ft (C:Addr) (od:Option Addr) (p:Addr):HO:=.ext fun h=>∃ (oe:Obj) (vs:Array Value),h.get? p=some oe/\oe.cls = .ref C/\oe.dict=od/\oe.data = .fields vs
def Wq (G:Hp) (od:Option Addr) (xs:List (Str×V)):Prop:=(od=none/\xs=[])\/∃ dx,od=some dx/\Rd G dx (.xd xs)
abbrev yI (K:PySem.W.Frag) (C:Addr):Prop:=PySem.W.findIn K (.ref C) "__getattribute__" = some (some (.builtin "BaseException.__getattribute__"))
mutual
inductive Rep (K:Kw) (G:Hp):V->D->Prop
 | non:Rep K G .non .non
 | bl (b:Bool):Rep K G (.bl b) (.bl b)
 | int (i:Int):Rep K G (.int i) (.int i)
 | str (x:List Nat):pG x=true->Rep K G (.str ⟨x.toArray⟩) (.str x)
 | tup {p:Addr} {xs:List V} {ds:List D}:SqT K G p xs->au K G xs ds->Rep K G (.ref p) (.tup ds)
 | lst {p:Addr} {xs:List V} {ds:List D}:G p=some (.lst xs)->au K G xs ds->Rep K G (.ref p) (.lst ds)
 | fz {p:Addr} {xs:List V} {ds:List D}:SqL K G p xs->au K G xs ds->Rep K G (.ref p) (.fz ds)
 | ob {p C dx:Addr} {c:Str} {xs:List (Str×V)} {ds:List D}:K.mg c=some (.ref C)->G p=some (.ins C dx xs)->au K G (xs.map (·.2)) ds->Rep K G (.ref p) (.ob c (xs.map (·.1)) ds)
 | xo {p C:Addr} {od:Option Addr} {c:Str} {xs:List (Str×V)} {ds:List D}:K.mg c=some (.ref C)->yI K.k C->Rd G p (Ft C od p)->Wq G od xs->au K G (xs.map (·.2)) ds->Rep K G (.ref p) (.ob c (xs.map (·.1)) ds)
 | dK {p:Addr} {ks:List (Key×V)} {kvs:List (D×D)}:Rd G p (.dK ks)->kvs.map (·.1)=ks.map (fun k=>kD k.1)->au K G (ks.map fun k=>kV k.1) (kvs.map (·.1))->au K G (ks.map (·.2)) (kvs.map (·.2))->Rep K G (.ref p) (.iH false kvs)
 | dN {p:Addr} {es:List (NestedKey×Addr×V)} {kvs:List (D×D)}:Rd G p (NDO K.w p es)->(kvs.map fun q=>nk q.1)=(es.map fun e=>some e.1)->au K G (es.map fun e=>V.ref e.2.1) (kvs.map (·.1))->au K G (es.map (·.2.2)) (kvs.map (·.2))->Rep K G (.ref p) (.iH true kvs)
inductive au (K:Kw) (G:Hp):List V->List D->Prop
 | nil:au K G [] []
 | cons {v:V} {vs:List V} {d:D} {ds:List D}:Rep K G v d->au K G vs ds->au K G (v :: vs) (d :: ds)
end
def Ex (H H':Hp):Prop:=∀ a o,H a=some o->H' a=some o
theorem Ex.refl (H:Hp):Ex H H:=fun _ _ h=>h
theorem Ex.trans {H H1 H2:Hp} (a:Ex H H1) (b:Ex H1 H2):Ex H H2:=fun x o h=>b x o (a x o h)
theorem Ex.new {H:Hp} {p:Addr} {o:HO} (h:H p=none):Ex H (upd H p o):=fun a u e=>by
 rw [upd_ne (ne_of_none e h)]; exact e
theorem Ex.rd {H H':Hp} {a:Addr} {u:HO} (e:Ex H H') (h:Rd H a u):Rd H' a u:=by
 rcases h with h | ⟨o,h⟩
 ·exact Or.inl (e a _ h)
 ·exact Or.inr ⟨o,e a _ h⟩
theorem Ex.xd {H H':Hp} {od:Option Addr} {xs:List (Str×V)} (e:Ex H H') (h:Wq H od xs):Wq H' od xs:=by
 rcases h with h | ⟨dx,a,b⟩
 ·exact .inl h
 ·exact .inr ⟨dx,a,e.rd b⟩
theorem Ex.l {K:Kw} {H H':Hp} {a:Addr} {xs:List V} (e:Ex H H') (h:SqL K H a xs):SqL K H' a xs:=by
 rcases h with h | h
 ·exact Or.inl (e.rd h)
 ·exact Or.inr h
theorem Ex.t {K:Kw} {H H':Hp} {a:Addr} {xs:List V} (e:Ex H H') (h:SqT K H a xs):SqT K H' a xs:=by
 rcases h with h | h
 ·exact Or.inl (e.rd h)
 ·exact Or.inr h
theorem Ex.free {H H':Hp} {p:Addr} (e:Ex H H') (h:H' p=none):H p=none:=by
 cases h1:H p with
 | none=>rfl
 | some o=>rw [e p o h1] at h; cases h
mutual
theorem Rep.mono {K:Kw} {G G':Hp} (e:Ex G G'):∀ {v:V} {d:D},Rep K G v d->Rep K G' v d
 | _,_, .non => .non
 | _,_, .bl b => .bl b
 | _,_, .int i => .int i
 | _,_, .str x h => .str x h
 | _,_, .tup a b => .tup (e.t a) (au.mono e b)
 | _,_, .lst a b => .lst (e _ _ a) (au.mono e b)
 | _,_, .fz a b => .fz (e.l a) (au.mono e b)
 | _,_, .ob a b c => .ob a (e _ _ b) (au.mono e c)
 | _,_, .xo a g b d c => .xo a g (e.rd b) (e.xd d) (au.mono e c)
 | _,_, .dK a k c b => .dK (e.rd a) k (au.mono e c) (au.mono e b)
 | _,_, .dN a k c b => .dN (e.rd a) k (au.mono e c) (au.mono e b)
theorem au.mono {K:Kw} {G G':Hp} (e:Ex G G'):∀ {vs:List V} {ds:List D},au K G vs ds->au K G' vs ds
 | _,_, .nil => .nil
 | _,_, .cons a b => .cons (Rep.mono e a) (au.mono e b)
end
section
variable {K:Kw} {G:Hp}
theorem au.length:∀ {vs:List V} {ds:List D},au K G vs ds->vs.length=ds.length
 | _,_, .nil=>rfl
 | _,_, .cons _ b=>congrArg (· + 1) (au.length b)
theorem au.get:∀ {vs:List V} {ds:List D} {i:Nat} {d:D},au K G vs ds->ds[i]? = some d->∃ v,vs[i]? = some v/\Rep K G v d
 | _,_,_,_, .nil,h=>by simp at h
 | _,_,0,_, .cons a _,h=>by simp at h; subst h; exact ⟨_,rfl,a⟩
 | _,_,i+1,_, .cons _ b,h=>by
  obtain ⟨v,h1,h2⟩:=au.get (i:=i) b (by simpa using h)
  exact ⟨v,by simpa using h1,h2⟩
theorem au.append:∀ {vs ws:List V} {ds es:List D},au K G vs ds->au K G ws es->au K G (vs++ws) (ds++es)
 | _,_,_,_, .nil,h=>h
 | _,_,_,_, .cons a b,h => .cons a (au.append b h)
theorem au.take:∀ {vs:List V} {ds:List D} (n:Nat),au K G vs ds->au K G (vs.take n) (ds.take n)
 | _,_,0,_ => .nil
 | _,_,_+1, .nil => .nil
 | _,_,n+1, .cons a b => .cons a (au.take n b)
theorem au.drop:∀ {vs:List V} {ds:List D} (n:Nat),au K G vs ds->au K G (vs.drop n) (ds.drop n)
 | _,_,0,r=>r
 | _,_,_+1, .nil => .nil
 | _,_,n+1, .cons _ b=>au.drop n b
theorem au.set {v:V} {d:D} (r:Rep K G v d):∀ {vs:List V} {ds:List D} (i:Nat),au K G vs ds->au K G (vs.set i v) (ds.set i d)
 | _,_,_, .nil => .nil
 | _,_,0, .cons _ b => .cons r b
 | _,_,i+1, .cons a b => .cons a (au.set r i b)
end
inductive Sh where
 | im | lst (s:Sh) | dK (s:Sh) | dN (s:Sh) | ob (f:Str) (s:Sh) | tb (P:Addr) (q:Str)
 deriving DecidableEq
def Vg (G H:Hp) (P:Addr) (q:Str):Prop:=∃ ps:Array Value,H P=some (.tbl ps)/\TriplesOk ps.toList/\∀ (pos:Pos) (cv:Value),codeAmong pos ps.toList=some cv->∃ c,cv = .ref c/\Rd G c (LamX.CodeO c q)
theorem Vg.mono {G G' H H':Hp} {P:Addr} {q:Str} (t:Vg G H P q) (e:Ex G G') (k:∀ o,H P=some o->H' P=some o):Vg G' H' P q:=by
 obtain ⟨ps,h1,h2,h3⟩:=t
 refine ⟨ps,k _ h1,h2,fun pos cv hc=>?_⟩
 obtain ⟨c,e1,e2⟩:=h3 pos cv hc
 exact ⟨c,e1,e.rd e2⟩
mutual
inductive Own (K:Kw) (G H:Hp):Sh->V->D->List Addr->Prop
 | im {v:V} {d:D}:Rep K G v d->Own K G H .im v d []
 | lst {s:Sh} {p:Addr} {xs:List V} {ds:List D} {f:List Addr}:H p=some (.lst xs)->bF K G H s xs ds f->Own K G H (.lst s) (.ref p) (.lst ds) (p :: f)
 | dK {s:Sh} {p:Addr} {ks:List (Key×V)} {kvs:List (D×D)} {f:List Addr}:H p=some (.dK ks)->kvs.map (·.1)=ks.map (fun k=>kD k.1)->au K G (ks.map fun k=>kV k.1) (kvs.map (·.1))->bF K G H s (ks.map (·.2)) (kvs.map (·.2)) f->Own K G H (.dK s) (.ref p) (.iH false kvs) (p :: f)
 | dN {s:Sh} {p:Addr} {es:List (NestedKey×Addr×V)} {kvs:List (D×D)} {f:List Addr}:H p=some (NDO K.w p es)->(kvs.map fun q=>nk q.1)=(es.map fun e=>some e.1)->au K G (es.map fun e=>V.ref e.2.1) (kvs.map (·.1))->bF K G H s (es.map (·.2.2)) (kvs.map (·.2)) f->Own K G H (.dN s) (.ref p) (.iH true kvs) (p :: f)
 | ob {f:Str} {s:Sh} {p C dx:Addr} {c:Str} {xs:List (Str×V)} {ds:List D} {fp:List Addr}:H p=some (.ins C dx xs)->H dx=some (.own p)->K.mg c=some (.ref C)->bQ K G H f s xs ds fp->Own K G H (.ob f s) (.ref p) (.ob c (xs.map (·.1)) ds) (p :: dx :: fp)
 | tb {P:Addr} {q:Str} {v:V} {d:D}:Rep K G v d->Vg G H P q->Own K G H (.tb P q) v d [P]
inductive bF (K:Kw) (G H:Hp):Sh->List V->List D->List Addr->Prop
 | nil {s:Sh}:bF K G H s [] [] []
 | cons {s:Sh} {v:V} {vs:List V} {d:D} {ds:List D} {f g:List Addr}:Own K G H s v d f->bF K G H s vs ds g->bF K G H s (v :: vs) (d :: ds) (f++g)
inductive bQ (K:Kw) (G H:Hp):Str->Sh->List (Str×V)->List D->List Addr->Prop
 | nil {f:Str} {s:Sh}:bQ K G H f s [] [] []
 | im {f g:Str} {s:Sh} {v:V} {d:D} {xs:List (Str×V)} {ds:List D} {fp:List Addr}:g ≠ f->Rep K G v d->bQ K G H f s xs ds fp->bQ K G H f s ((g,v) :: xs) (d :: ds) fp
 | ow {f:Str} {s:Sh} {v:V} {d:D} {xs:List (Str×V)} {ds:List D} {f1 fp:List Addr}:Own K G H s v d f1->bQ K G H f s xs ds fp->bQ K G H f s ((f,v) :: xs) (d :: ds) (f1++fp)
end
mutual
theorem Own.mono {K:Kw} {G G' H H':Hp} (e:Ex G G'):∀ {s:Sh} {v:V} {d:D} {f:List Addr},Own K G H s v d f->(∀ p∈f,∀ o,H p=some o->H' p=some o)->Own K G' H' s v d f
 | _,_,_,_, .im r,_ => .im (r.mono e)
 | _,_,_,_, .lst a b,k => .lst (k _ List.mem_cons_self _ a) (bF.mono e b fun p hp=>k p (List.mem_cons_of_mem _ hp))
 | _,_,_,_, .dK a c r b,k => .dK (k _ List.mem_cons_self _ a) c (r.mono e) (bF.mono e b fun p hp=>k p (List.mem_cons_of_mem _ hp))
 | _,_,_,_, .dN a c r b,k => .dN (k _ List.mem_cons_self _ a) c (r.mono e) (bF.mono e b fun p hp=>k p (List.mem_cons_of_mem _ hp))
 | _,_,_,_, .ob a c m b,k => .ob (k _ List.mem_cons_self _ a) (k _ (List.mem_cons_of_mem _ List.mem_cons_self) _ c) m (bQ.mono e b fun p hp=>k p (List.mem_cons_of_mem _ (List.mem_cons_of_mem _ hp)))
 | _,_,_,_, .tb r t,k => .tb (r.mono e) (t.mono e (k _ List.mem_cons_self))
theorem bF.mono {K:Kw} {G G' H H':Hp} (e:Ex G G'):∀ {s:Sh} {vs:List V} {ds:List D} {f:List Addr},bF K G H s vs ds f->(∀ p∈f,∀ o,H p=some o->H' p=some o)->bF K G' H' s vs ds f
 | _,_,_,_, .nil,_ => .nil
 | _,_,_,_, .cons a b,k => .cons (Own.mono e a fun p hp=>k p (List.mem_append_left _ hp)) (bF.mono e b fun p hp=>k p (List.mem_append_right _ hp))
theorem bQ.mono {K:Kw} {G G' H H':Hp} (e:Ex G G'):∀ {f:Str} {s:Sh} {xs:List (Str×V)} {ds:List D} {fp:List Addr},bQ K G H f s xs ds fp->(∀ p∈fp,∀ o,H p=some o->H' p=some o)->bQ K G' H' f s xs ds fp
 | _,_,_,_,_, .nil,_ => .nil
 | _,_,_,_,_, .im n r b,k => .im n (r.mono e) (bQ.mono e b k)
 | _,_,_,_,_, .ow a b,k => .ow (Own.mono e a fun p hp=>k p (List.mem_append_left _ hp)) (bQ.mono e b fun p hp=>k p (List.mem_append_right _ hp))
end
mutual
theorem Own.there {K:Kw} {G H:Hp}:∀ {s:Sh} {v:V} {d:D} {f:List Addr},Own K G H s v d f->∀ p∈f,∃ o,H p=some o
 | _,_,_,_, .im r,p,hp=>absurd hp List.not_mem_nil
 | _,_,_,_, .lst a b,p,hp=>by
  rcases List.mem_cons.mp hp with e | hp
  ·exact ⟨_,e ▸ a⟩
  ·exact bF.there b p hp
 | _,_,_,_, .dK a _ _ b,p,hp=>by
  rcases List.mem_cons.mp hp with e | hp
  ·exact ⟨_,e ▸ a⟩
  ·exact bF.there b p hp
 | _,_,_,_, .dN a _ _ b,p,hp=>by
  rcases List.mem_cons.mp hp with e | hp
  ·exact ⟨_,e ▸ a⟩
  ·exact bF.there b p hp
 | _,_,_,_, .ob a c _ b,p,hp=>by
  rcases List.mem_cons.mp hp with e | hp
  ·exact ⟨_,e ▸ a⟩
  ·rcases List.mem_cons.mp hp with e | hp
   ·exact ⟨_,e ▸ c⟩
   ·exact bQ.there b p hp
 | _,_,_,_, .tb r t,p,hp=>by
  rw [List.mem_singleton.mp hp]
  obtain ⟨ps,h,_⟩:=t
  exact ⟨_,h⟩
theorem bF.there {K:Kw} {G H:Hp}:∀ {s:Sh} {vs:List V} {ds:List D} {f:List Addr},bF K G H s vs ds f->∀ p∈f,∃ o,H p=some o
 | _,_,_,_, .nil,p,hp=>absurd hp List.not_mem_nil
 | _,_,_,_, .cons a b,p,hp=>by
  rcases List.mem_append.mp hp with hp | hp
  ·exact Own.there a p hp
  ·exact bF.there b p hp
theorem bQ.there {K:Kw} {G H:Hp}:∀ {f:Str} {s:Sh} {xs:List (Str×V)} {ds:List D} {fp:List Addr},bQ K G H f s xs ds fp->∀ p∈fp,∃ o,H p=some o
 | _,_,_,_,_, .nil,p,hp=>absurd hp List.not_mem_nil
 | _,_,_,_,_, .im _ _ b,p,hp=>bQ.there b p hp
 | _,_,_,_,_, .ow a b,p,hp=>by
  rcases List.mem_append.mp hp with hp | hp
  ·exact Own.there a p hp
  ·exact bQ.there b p hp
end
theorem bF.K8 {K:Kw} {G H:Hp}:∀ {vs:List V} {ds:List D},au K G vs ds->bF K G H .im vs ds []
 | _,_, .nil => .nil
 | _,_, .cons a b => .cons (f:=[]) (g:=[]) (.im a) (bF.K8 b)
theorem bF.reps {K:Kw} {G H:Hp}:∀ {vs:List V} {ds:List D} {f:List Addr},bF K G H .im vs ds f->au K G vs ds/\f=[]
 | _,_,_, .nil=>⟨.nil,rfl⟩
 | _,_,_, .cons (.im a) b=>by
  obtain ⟨h,rfl⟩:=bF.reps b
  exact ⟨.cons a h,rfl⟩
mutual
theorem Own.freeze {K:Kw} {G H G':Hp} (e:Ex G G'):∀ {s:Sh} {v:V} {d:D} {f:List Addr},Own K G H s v d f->(∀ p∈f,∀ o,H p=some o->G' p=some o)->Rep K G' v d
 | _,_,_,_, .im r,_=>r.mono e
 | _,_,_,_, .lst a b,k => .lst (k _ List.mem_cons_self _ a) (bF.freeze e b fun p hp=>k p (List.mem_cons_of_mem _ hp))
 | _,_,_,_, .dK a c r b,k => .dK (Rd.of (k _ List.mem_cons_self _ a)) c (r.mono e) (bF.freeze e b fun p hp=>k p (List.mem_cons_of_mem _ hp))
 | _,_,_,_, .dN a c r b,k => .dN (Rd.of (k _ List.mem_cons_self _ a)) c (r.mono e) (bF.freeze e b fun p hp=>k p (List.mem_cons_of_mem _ hp))
 | _,_,_,_, .ob a c m b,k => .ob m (k _ List.mem_cons_self _ a) (bQ.freeze e b fun p hp=>k p (List.mem_cons_of_mem _ (List.mem_cons_of_mem _ hp)))
 | _,_,_,_, .tb r t,k=>r.mono e
theorem bF.freeze {K:Kw} {G H G':Hp} (e:Ex G G'):∀ {s:Sh} {vs:List V} {ds:List D} {f:List Addr},bF K G H s vs ds f->(∀ p∈f,∀ o,H p=some o->G' p=some o)->au K G' vs ds
 | _,_,_,_, .nil,_ => .nil
 | _,_,_,_, .cons a b,k => .cons (Own.freeze e a fun p hp=>k p (List.mem_append_left _ hp)) (bF.freeze e b fun p hp=>k p (List.mem_append_right _ hp))
theorem bQ.freeze {K:Kw} {G H G':Hp} (e:Ex G G'):∀ {f:Str} {s:Sh} {xs:List (Str×V)} {ds:List D} {fp:List Addr},bQ K G H f s xs ds fp->(∀ p∈fp,∀ o,H p=some o->G' p=some o)->au K G' (xs.map (·.2)) ds
 | _,_,_,_,_, .nil,_ => .nil
 | _,_,_,_,_, .im _ r b,k => .cons (r.mono e) (bQ.freeze e b k)
 | _,_,_,_,_, .ow a b,k => .cons (Own.freeze e a fun p hp=>k p (List.mem_append_left _ hp)) (bQ.freeze e b fun p hp=>k p (List.mem_append_right _ hp))
end
inductive SD where
 | un | im (d:D) | ow (io:Bool) (s:Sh) (d:D)
def qu (K:Kw) (G H:Hp) (x:Option V) (sd:SD) (f:List Addr):Prop:=match sd with
 | .un=>f=[]
 | .im d=>f=[]/\∃ v,x=some v/\Rep K G v d
 | .ow _ s d=>∃ v,x=some v/\Own K G H s v d f
structure Slots (K:Kw) (G H:Hp) (σ:L2.St) (ss:List SD) (fps:List (List Addr)):Prop where
 l1:σ.length=ss.length
 l2:fps.length=ss.length
 at':∀ (i:Nat) (x:Option V) (sd:SD) (f:List Addr),σ[i]? = some x->ss[i]? = some sd->fps[i]? = some f->qu K G H x sd f
structure Apart (fps:List (List Addr)):Prop where
 a1:∀ (i:Nat) (f:List Addr),fps[i]? = some f->f.Nodup
 a2:∀ (i j:Nat) (f g:List Addr) (p:Addr),fps[i]? = some f->fps[j]? = some g->p∈f->p∈g->i=j
structure Fm (K:Kw) (pin:L2.St) (G:Hp) (fps:List (List Addr)) (σ:L2.St) (H:Hp) (ss:List SD):Prop where
 ex:Ex G H
 sl:Slots K G H σ ss fps
 ap:Apart fps
 fr:∀ p∈fps.flatten,G p=none
 io:∀ (i:Nat) (s:Sh) (d:D),ss[i]? = some (SD.ow true s d)->σ[i]? = pin[i]?
structure Step (own:List Addr) (G H:Hp) (own':List Addr) (G' H':Hp):Prop where
 g:Ex G G'
 n:∀ p o,G' p=some o->G p=some o\/H p=none\/p∈own
 h:∀ p o,H p=some o->p ∉ own->H' p=some o
 w:∀ p∈own',p∈own\/H p=none
 t:∀ p,H' p=none->H p=none
theorem Step.refl (own:List Addr) (G H:Hp):Step own G H own G H:=
 ⟨Ex.refl G,fun _ _ h => .inl h,fun _ _ h _=>h,fun _ h => .inl h,fun _ h=>h⟩
theorem Step.trans {o1 o2 o3:List Addr} {G1 H1 G2 H2 G3 H3:Hp} (a:Step o1 G1 H1 o2 G2 H2) (b:Step o2 G2 H2 o3 G3 H3):Step o1 G1 H1 o3 G3 H3 where
 g:=a.g.trans b.g
 n:=fun p o h=>by
  rcases b.n p o h with h | h | h
  ·exact a.n p o h
  ·exact .inr (.inl (a.t p h))
  ·rcases a.w p h with h | h
   ·exact .inr (.inr h)
   ·exact .inr (.inl h)
 h:=fun p o h hn=>b.h p o (a.h p o h hn) fun hp=>by
  rcases a.w p hp with q | q
  ·exact hn q
  ·rw [q] at h; cases h
 w:=fun p hp=>by
  rcases b.w p hp with h | h
  ·exact a.w p h
  ·exact .inr (a.t p h)
 t:=fun p h=>a.t p (b.t p h)
structure aU (G H G' H':Hp):Prop where
 g:Ex G G'
 h:Ex H H'
 gh:Ex G' H'
 n:∀ p o,G' p=some o->G p=some o\/H p=none
theorem aU.refl {G H:Hp} (e:Ex G H):aU G H G H:=⟨Ex.refl G,Ex.refl H,e,fun _ _ h => .inl h⟩
theorem aU.new {G H:Hp} {p:Addr} {o:HO} (e:Ex G H) (h:H p=none):aU G H (upd G p o) (upd H p o) where
 g:=Ex.new (e.free h)
 h:=Ex.new h
 gh:=fun a u q=>by
  unfold upd at q ⊢
  split
  ·rename_i c; rw [if_pos c] at q; exact q
  ·rename_i c; rw [if_neg c] at q; exact e a u q
 n:=fun a u q=>by
  by_cases c:a=p
  ·exact .inr (c ▸ h)
  ·rw [upd_ne c] at q; exact .inl q
theorem aU.own {G H:Hp} {p:Addr} {o:HO} (e:Ex G H) (h:H p=none):aU G H G (upd H p o) where
 g:=Ex.refl G
 h:=Ex.new h
 gh:=e.trans (Ex.new h)
 n:=fun a u q => .inl q
theorem aU.trans {G H G1 H1 G2 H2:Hp} (a:aU G H G1 H1) (b:aU G1 H1 G2 H2):aU G H G2 H2 where
 g:=a.g.trans b.g
 h:=a.h.trans b.h
 gh:=b.gh
 n:=fun p o q=>by
  rcases b.n p o q with q | q
  ·exact a.n p o q
  ·exact .inr (a.h.free q)
theorem aU.step {G H G' H':Hp} (a:aU G H G' H') (own:List Addr):Step own G H own G' H':=
 ⟨a.g,fun p o h=>(a.n p o h).elim .inl fun q => .inr (.inl q),fun p o h _=>a.h p o h,fun _ h => .inl h,fun _ h=>a.h.free h⟩
theorem bT {fps:List (List Addr)} {p:Addr}:p∈fps.flatten↔∃ (i:Nat) (f:List Addr),fps[i]? = some f/\p∈f:=by
 rw [List.mem_flatten]
 constructor
 ·rintro ⟨f,hf,hp⟩
  obtain ⟨i,h⟩:=List.mem_iff_getElem?.mp hf
  exact ⟨i,f,h,hp⟩
 ·rintro ⟨i,f,h,hp⟩
  exact ⟨f,List.mem_iff_getElem?.mpr ⟨i,h⟩,hp⟩
section
variable {K:Kw} {pin:L2.St} {G G' H H':Hp} {fps:List (List Addr)} {σ:L2.St} {ss:List SD}
theorem qu.mono {x:Option V} {sd:SD} {f:List Addr} (e:Ex G G') (h:qu K G H x sd f) (k:∀ p∈f,∀ o,H p=some o->H' p=some o):qu K G' H' x sd f:=by
 cases sd with
 | un=>exact h
 | im d=>obtain ⟨h1,v,h2,h3⟩:=h; exact ⟨h1,v,h2,h3.mono e⟩
 | ow io s d=>obtain ⟨v,h2,h3⟩:=h; exact ⟨v,h2,h3.mono e k⟩
theorem Slots.three (S:Slots K G H σ ss fps) {i:Nat} {sd:SD} (h:ss[i]? = some sd):∃ x f,σ[i]? = some x/\fps[i]? = some f/\qu K G H x sd f:=by
 obtain ⟨hi,_⟩:=List.getElem?_eq_some_iff.mp h
 have h1:i < σ.length:=by rw [S.l1]; exact hi
 have h2:i < fps.length:=by rw [S.l2]; exact hi
 exact ⟨σ[i],fps[i],List.getElem?_eq_getElem h1,List.getElem?_eq_getElem h2,S.at' i _ _ _ (List.getElem?_eq_getElem h1) h (List.getElem?_eq_getElem h2)⟩
theorem Slots.Wr (S:Slots K G H σ ss fps) {i:Nat} {f:List Addr} (h:fps[i]? = some f):∃ x sd,σ[i]? = some x/\ss[i]? = some sd/\qu K G H x sd f:=by
 obtain ⟨hi,_⟩:=List.getElem?_eq_some_iff.mp h
 have h2:i < ss.length:=by rw [<- S.l2]; exact hi
 obtain ⟨x,g,e1,e2,e3⟩:=S.three (List.getElem?_eq_getElem h2)
 rw [h] at e2; cases e2
 exact ⟨x,_,e1,List.getElem?_eq_getElem h2,e3⟩
theorem Slots.mono (e:Ex G G') (S:Slots K G H σ ss fps) (k:∀ p∈fps.flatten,∀ o,H p=some o->H' p=some o):Slots K G' H' σ ss fps:=
 ⟨S.l1,S.l2,fun i x sd f h1 h2 h3=>(S.at' i x sd f h1 h2 h3).mono e fun p hp=>k p (bT.mpr ⟨i,f,h3,hp⟩)⟩
theorem qu.there {x:Option V} {sd:SD} {f:List Addr} (h:qu K G H x sd f):∀ p∈f,∃ o,H p=some o:=by
 cases sd with
 | un=>have h':f=[]:=h; subst h'; exact fun p hp=>absurd hp List.not_mem_nil
 | im d=>obtain ⟨h1,_⟩:=h; subst h1; exact fun p hp=>absurd hp List.not_mem_nil
 | ow io s d=>obtain ⟨v,h2,h3⟩:=h; exact h3.there
theorem Slots.there (S:Slots K G H σ ss fps):∀ p∈fps.flatten,∃ o,H p=some o:=fun p hp=>by
 obtain ⟨i,f,h,hp⟩:=bT.mp hp
 obtain ⟨x,sd,_,_,k⟩:=S.Wr h
 exact k.there p hp
theorem Fm.alloc (F:Fm K pin G fps σ H ss) (a:aU G H G' H'):Fm K pin G' fps σ H' ss where
 ex:=a.gh
 sl:=F.sl.mono a.g fun p _ o h=>a.h p o h
 ap:=F.ap
 fr:=fun p hp=>by
  cases q:G' p with
  | none=>rfl
  | some o=>
   rcases a.n p o q with z | z
   ·rw [F.fr p hp] at z; cases z
   ·obtain ⟨o',e⟩:=F.sl.there p hp
    rw [z] at e; cases e
 io:=F.io
theorem Slots.get (S:Slots K G H σ ss fps) {i:Nat} {d:D} (h:ss[i]? = some (SD.im d)):∃ v,σ[i]? = some (some v)/\Rep K G v d:=by
 obtain ⟨x,f,h1,h2,_,v,e,r⟩:=S.three h
 subst e
 exact ⟨v,h1,r⟩
theorem Slots.zK (S:Slots K G H σ ss fps) {i:Nat} {io:Bool} {s:Sh} {d:D} (h:ss[i]? = some (SD.ow io s d)):∃ v f,σ[i]? = some (some v)/\fps[i]? = some f/\Own K G H s v d f:=by
 obtain ⟨x,f,h1,h2,v,e,r⟩:=S.three h
 subst e
 exact ⟨v,f,h1,h2,r⟩
theorem Fm.put {i:Nat} {f f':List Addr} {x':Option V} {Mu:SD} (F:Fm K pin G fps σ H ss) (hf:fps[i]? = some f) (g:Ex G G') (gh:Ex G' H') (hn:∀ p o,G' p=some o->G p=some o\/H p=none\/p∈f)
  (hh:∀ p o,H p=some o->p ∉ f->H' p=some o) (new:qu K G' H' x' Mu f') (hw:∀ p∈f',p∈f\/p ∉ fps.flatten) (nd:f'.Nodup) (fr:∀ p∈f',G' p=none)
  (io:∀ s d,Mu = .ow true s d->(σ.set i x')[i]? = pin[i]?):Fm K pin G' (fps.set i f') (σ.set i x') H' (ss.set i Mu):=by
 have hi:i < fps.length:=(List.getElem?_eq_some_iff.mp hf).1
 have hi2:i < ss.length:=by rw [<- F.sl.l2]; exact hi
 have hi1:i < σ.length:=by rw [F.sl.l1]; exact hi2
 have other:∀ j g p,j ≠ i->fps[j]? = some g->p∈g->p ∉ f/\∃ o,H p=some o:=fun j g p hj hg hp=>
  ⟨fun q=>hj (F.ap.a2 j i g f p hg hf hp q),F.sl.there p (bT.mpr ⟨j,g,hg,hp⟩)⟩
 refine ⟨gh,⟨by simpa using F.sl.l1,by simpa using F.sl.l2,fun j x sd fj h1 h2 h3=>?_⟩,⟨fun j fj h=>?_,fun j k fj fk p h1 h2 h3 h4=>?_⟩,fun p hp=>?_,fun j s d h=>?_⟩
 ·by_cases hj:j=i
  ·subst hj
   rw [List.getElem?_set_self hi1] at h1
   rw [List.getElem?_set_self hi2] at h2
   rw [List.getElem?_set_self hi] at h3
   cases h1; cases h2; cases h3
   exact new
  ·rw [List.getElem?_set_ne (Ne.symm hj)] at h1 h2 h3
   exact (F.sl.at' j x sd fj h1 h2 h3).mono g fun p hp o e=>hh p o e (other j fj p hj h3 hp).1
 ·by_cases hj:j=i
  ·subst hj; rw [List.getElem?_set_self hi] at h; cases h; exact nd
  ·rw [List.getElem?_set_ne (Ne.symm hj)] at h; exact F.ap.a1 j fj h
 ·by_cases hj:j=i
  ·by_cases hk:k=i
   ·rw [hj,hk]
   ·subst hj
    rw [List.getElem?_set_self hi] at h1; cases h1
    rw [List.getElem?_set_ne (Ne.symm hk)] at h2
    obtain ⟨q1,o,q2⟩:=other k fk p hk h2 h4
    rcases hw p h3 with z | z
    ·exact absurd z q1
    ·exact absurd (bT.mpr ⟨k,fk,h2,h4⟩) z
  ·by_cases hk:k=i
   ·subst hk
    rw [List.getElem?_set_self hi] at h2; cases h2
    rw [List.getElem?_set_ne (Ne.symm hj)] at h1
    obtain ⟨q1,o,q2⟩:=other j fj p hj h1 h3
    rcases hw p h4 with z | z
    ·exact absurd z q1
    ·exact absurd (bT.mpr ⟨j,fj,h1,h3⟩) z
   ·rw [List.getElem?_set_ne (Ne.symm hj)] at h1
    rw [List.getElem?_set_ne (Ne.symm hk)] at h2
    exact F.ap.a2 j k fj fk p h1 h2 h3 h4
 ·obtain ⟨j,fj,h,hp⟩:=bT.mp hp
  by_cases hj:j=i
  ·subst hj; rw [List.getElem?_set_self hi] at h; cases h; exact fr p hp
  ·rw [List.getElem?_set_ne (Ne.symm hj)] at h
   obtain ⟨q1,o,q2⟩:=other j fj p hj h hp
   cases q:G' p with
   | none=>rfl
   | some u=>
    rcases hn p u q with z | z | z
    ·rw [F.fr p (bT.mpr ⟨j,fj,h,hp⟩)] at z; cases z
    ·rw [z] at q2; cases q2
    ·exact absurd z q1
 ·by_cases hj:j=i
  ·subst hj; rw [List.getElem?_set_self hi2] at h; exact io s d (Option.some.inj h)
  ·rw [List.getElem?_set_ne (Ne.symm hj)] at h ⊢; exact F.io j s d h
theorem Fm.yD {abz:List Addr} {G0 H0:Hp} {i:Nat} {f f':List Addr} (st:Step abz G0 H0 fps.flatten G H) (hf:fps[i]? = some f) (g:Ex G G') (hn:∀ p o,G' p=some o->G p=some o\/H p=none\/p∈f)
  (hh:∀ p o,H p=some o->p ∉ f->H' p=some o) (hw:∀ p∈f',p∈f\/H0 p=none) (ht:∀ p,H' p=none->H p=none):Step abz G0 H0 (fps.set i f').flatten G' H':=by
 have hi:i < fps.length:=(List.getElem?_eq_some_iff.mp hf).1
 have sub:∀ p∈f,p∈fps.flatten:=fun p hp=>bT.mpr ⟨i,f,hf,hp⟩
 refine ⟨st.g.trans g,fun p o h=>?_,fun p o h hp=>?_,fun p hp=>?_,fun p h=>st.t p (ht p h)⟩
 ·rcases hn p o h with z | z | z
  ·exact st.n p o z
  ·exact .inr (.inl (st.t p z))
  ·rcases st.w p (sub p z) with q | q
   ·exact .inr (.inr q)
   ·exact .inr (.inl q)
 ·refine hh p o (st.h p o h hp) fun q=>?_
  rcases st.w p (sub p q) with z | z
  ·exact hp z
  ·rw [z] at h; cases h
 ·obtain ⟨j,fj,h,hp⟩:=bT.mp hp
  by_cases hj:j=i
  ·subst hj
   rw [List.getElem?_set_self hi] at h; cases h
   rcases hw p hp with z | z
   ·exact st.w p (sub p z)
   ·exact .inr z
  ·rw [List.getElem?_set_ne (Ne.symm hj)] at h
   exact st.w p (bT.mpr ⟨j,fj,h,hp⟩)
end
theorem set_same {α:Type}:∀ {l:List α} {i:Nat} {x:α},l[i]? = some x->l.set i x=l
 | [],_,_,h=>by simp at h
 | a :: l,0,x,h=>by simp at h; subst h; rfl
 | a :: l,i+1,x,h=>by
  have:=set_same (l:=l) (i:=i) (x:=x) (by simpa using h)
  simp [this]
end DL
namespace DL
open PySem PySem.Spec PyProof.Rows L2
inductive Rv where
 | im (d:D) | sl (i:Nat)
def Sh.flat:Sh->Bool
 | .lst .im=>true
 | .dK .im=>true
 | .dN .im=>true
 | .tb _ _=>true
 | _=>false
def SD.get:SD->Option D
 | .im d=>some d
 | .ow _ s d=>if s.flat then some d else none
 | .un=>none
def Rv.get:Rv->List SD->Option D
 | .im d,_=>some d
 | .sl i,ss=>(ss[i]?).bind SD.get
inductive Out where
 | bad | val (r:Rv) (ss:List SD) | exc (c:Str) (fs:List (Str×D)) (ss:List SD)
abbrev AE:=List SD->Out
def Out.bind (o:Out) (k:Rv->List SD->Out):Out:=match o with
 | .bad => .bad
 | .val r ss=>k r ss
 | .exc c fs ss => .exc c fs ss
def Out.ofD (o:Option D) (ss:List SD):Out:=match o with
 | some d => .val (.im d) ss
 | none => .bad
def xG (K:Kw) (G:Hp) (σ:L2.St):Rv->V->Prop
 | .im d,v=>Rep K G v d
 | .sl i,v=>σ[i]? = some (some v)
theorem xG.mono {K:Kw} {G G':Hp} {σ:L2.St} (e:Ex G G'):∀ {r:Rv} {v:V},xG K G σ r v->xG K G' σ r v
 | .im _,_,h=>Rep.mono e h
 | .sl _,_,h=>h
inductive Top (K:Kw) (G H:Hp):V->D->Prop
 | im {v:V} {d:D}:Rep K G v d->Top K G H v d
 | lst {p:Addr} {xs:List V} {ds:List D}:H p=some (.lst xs)->au K G xs ds->Top K G H (.ref p) (.lst ds)
 | dK {p:Addr} {ks:List (Key×V)} {kvs:List (D×D)}:H p=some (.dK ks)->kvs.map (·.1)=ks.map (fun k=>kD k.1)->au K G (ks.map fun k=>kV k.1) (kvs.map (·.1))->au K G (ks.map (·.2)) (kvs.map (·.2))->Top K G H (.ref p) (.iH false kvs)
 | dN {p:Addr} {es:List (NestedKey×Addr×V)} {kvs:List (D×D)}:H p=some (NDO K.w p es)->(kvs.map fun q=>nk q.1)=(es.map fun e=>some e.1)->au K G (es.map fun e=>V.ref e.2.1) (kvs.map (·.1))->au K G (es.map (·.2.2)) (kvs.map (·.2))->Top K G H (.ref p) (.iH true kvs)
theorem Own.top {K:Kw} {G H:Hp} {s:Sh} {v:V} {d:D} {f:List Addr} (h:Own K G H s v d f) (hs:s.flat=true):Top K G H v d:=by
 cases h with
 | im r=>exact .im r
 | lst a b=>
  rename_i s p xs ds f
  cases s with
  | im=>exact .lst a b.reps.1
  | _=>exact absurd hs (by simp [Sh.flat])
 | dK a c r b=>
  rename_i s p xs ds f
  cases s with
  | im=>exact .dK a c r b.reps.1
  | _=>exact absurd hs (by simp [Sh.flat])
 | dN a c r b=>
  rename_i s p xs ds f
  cases s with
  | im=>exact .dN a c r b.reps.1
  | _=>exact absurd hs (by simp [Sh.flat])
 | ob _ _ _ _=>exact absurd hs (by simp [Sh.flat])
 | tb r t=>exact .im r
section
variable {K:Kw} {mg:Str->Option Value} {W:WX} {pin:L2.St} {G H G1 H1:Hp} {own own1:List (List Addr)} {σ:L2.St} {ss ss':List SD} {r:Rv} {v:V} {d:D} {o:Out}
theorem Fm.top (F:Fm K pin G own σ H ss) (h:xG K G σ r v) (e:r.get ss=some d):Top K G H v d:=by
 cases r with
 | im d'=>cases e; exact .im h
 | sl i=>
  have e':(ss[i]?).bind SD.get=some d:=e
  cases q:ss[i]? with
  | none=>rw [q] at e'; cases e'
  | some sd=>
   rw [q] at e'
   have e2:sd.get=some d:=e'
   have hv:σ[i]? = some (some v):=h
   cases sd with
   | un=>cases e2
   | im d'=>
    cases e2
    obtain ⟨u,h1,h2⟩:=F.sl.get q
    rw [hv] at h1; cases h1
    exact .im h2
   | ow io s d'=>
    have e3:(if s.flat=true then some d' else none)=some d:=e2
    split at e3
    ·rename_i hs
     cases e3
     obtain ⟨u,g,h1,_,h2⟩:=F.sl.zK q
     rw [hv] at h1; cases h1
     exact h2.top hs
    ·cases e3
def Om (K:Kw) (G H:Hp) (fs:List (Str×D)) (dd:Option Addr):Prop:=
 (fs=[]/\dd=none)\/∃ d xs,dd=some d/\H d=some (.xd xs)/\xs.map (·.1)=fs.map (·.1)/\au K G (xs.map (·.2)) (fs.map (·.2))
def bA (K:Kw) (mg:Str->Option Value) (W:WX) (pin:L2.St) (G:Hp) (own:List (List Addr)) (σ:L2.St) (H:Hp) (o:Out):Prop:=match o with
 | .bad=>False
 | .val _ _=>True
 | .exc c fs ss'=>∃ C,mg c=some (.ref C)/\∀ dd G' own' H',Step own.flatten G H own'.flatten G' H'->Fm K pin G' own' σ H' ss'->Om K G' H' fs dd->W (.ref C) dd σ H'
theorem bA.step (w:bA K mg W pin G own σ H o) (st:Step own.flatten G H own1.flatten G1 H1):bA K mg W pin G1 own1 σ H1 o:=by
 cases o with
 | bad=>exact w
 | val r ss'=>trivial
 | exc c fs ss'=>
  obtain ⟨C,h1,h2⟩:=w
  exact ⟨C,h1,fun dd G' own' H' s F x=>h2 dd G' own' H' (st.trans s) F x⟩
theorem bA.bind1 {k:Rv->List SD->Out} (w:bA K mg W pin G own σ H (o.bind k)):bA K mg W pin G own σ H o:=by
 cases o with
 | bad=>exact w
 | val r ss'=>trivial
 | exc c fs ss'=>exact w
theorem bA.JF {k:Rv->List SD->Out} (e:o = .val r ss') (w:bA K mg W pin G own σ H (o.bind k)):bA K mg W pin G own σ H (k r ss'):=by
 subst e; exact w
def tD (K:Kw) (mg:Str->Option Value) (W:WX) (A:AE):TE:=fun σ H Q=>∃ pin G own ss,Fm K pin G own σ H ss/\bA K mg W pin G own σ H (A ss) /\
 ∀ r ss' v G' own' H',A ss = .val r ss'->Step own.flatten G H own'.flatten G' H'->Fm K pin G' own' σ H' ss'->xG K G' σ r v->Q v H'
end
abbrev DE (X:Cx) (W:WX) (e:Expr) (A:AE):Prop:=PE X e (tD X.kw X.mg W A)
def EPost (X:Cx) (pins:List (Addr×Obj)) (σ:L2.St) (pin:L2.St) (G:Hp) (own:List (List Addr)) (H:Hp) (o:Out) (u:Value) (s':Shared):Prop:=
 ∃ r ss' v H' G' own',o = .val r ss'/\Inv X pins σ H' s'/\RelV v u/\Step own.flatten G H own'.flatten G' H'/\Fm X.kw pin G' own' σ H' ss'/\xG X.kw G' σ r v
section
variable {X:Cx} {W:WX} {e:Expr} {A B:AE} {pins:List (Addr×Obj)} {s:Shared} {σ:L2.St} {G H:Hp} {pin:L2.St} {own:List (List Addr)} {ss ss':List SD}
theorem DE.go (h:DE X W e A) (I:Inv X pins σ H s) (F:Fm X.kw pin G own σ H ss) (w:bA X.kw X.mg W pin G own σ H (A ss)) :
  wpAny (model X.prog X.w) X.A (eval e X.env) (EPost X pins σ pin G own H (A ss)) X.xe s:=by
 refine thn (h.run pins s σ H (fun v H'=>∃ r ss' G' own',A ss = .val r ss'/\Step own.flatten G H own'.flatten G' H'/\Fm X.kw pin G' own' σ H' ss'/\xG X.kw G' σ r v) I ⟨pin,G,own,ss,F,w,fun r ss' v G' own' H' e st F' k=>⟨r,ss',G',own',e,st,F',k⟩⟩) fun u s1 ⟨v,H1,I1,rv,r,ss',G',own',e,st,F',k⟩=>?_
 exact ⟨r,ss',v,H1,G',own',e,I1,rv,st,F',k⟩
theorem DE.mk (h:∀ (pins:List (Addr×Obj)) (s:Shared) (σ:L2.St) (H:Hp) (pin:L2.St) (G:Hp) (own:List (List Addr)) (ss:List SD),Inv X pins σ H s->Fm X.kw pin G own σ H ss->bA X.kw X.mg W pin G own σ H (A ss) ->
  wpAny (model X.prog X.w) X.A (eval e X.env) (EPost X pins σ pin G own H (A ss)) X.xe s):DE X W e A:=by
 refine ⟨fun pins s σ H Q I h'=>?_⟩
 obtain ⟨pin,G,own,ss,F,w,k⟩:=h'
 refine thn (h pins s σ H pin G own ss I F w) fun u s1 ⟨r,ss',v,H1,G',own',e,I1,rv,st,F',kk⟩=>?_
 exact ⟨v,H1,I1,rv,k r ss' v G' own' H1 e st F' kk⟩
theorem DE.of {t:TE} (h:PE X e t) (k:∀ (σ:L2.St) (H:Hp) (pin:L2.St) (G:Hp) (own:List (List Addr)) (ss:List SD) (Q:VK),Fm X.kw pin G own σ H ss->bA X.kw X.mg W pin G own σ H (A ss) ->
  (∀ r ss' v G' own' H',A ss = .val r ss'->Step own.flatten G H own'.flatten G' H'->Fm X.kw pin G' own' σ H' ss'->xG X.kw G' σ r v->Q v H')->t σ H Q):DE X W e A:=
 ⟨fun pins s σ H Q I h'=>by
  obtain ⟨pin,G,own,ss,F,w,q⟩:=h'
  exact h.run pins s σ H Q I (k σ H pin G own ss Q F w q)⟩
theorem EPost.quiet {o:Out} {r:Rv} {v:V} {u:Value} (I:Inv X pins σ H s) (F:Fm X.kw pin G own σ H ss) (e:o = .val r ss) (rv:RelV v u) (k:xG X.kw G σ r v):EPost X pins σ pin G own H o u s:=
 ⟨r,ss,v,H,G,own,e,I,rv,Step.refl _ _ _,F,k⟩
def ak (i:Nat):AE:=fun ss=>match ss[i]? with
 | some (.im d) => .val (.im d) ss
 | some (.ow _ _ _) => .val (.sl i) ss
 | _ => .bad
def aC (d:D):AE:=fun ss => .val (.im d) ss
theorem aq {i:Nat} {x:Str} {pos:Pos} (hN:X.N[i]? = some x:=by rfl) (hv:Vis X.env.scope x:=by first | exact Or.inl rfl | exact Or.inr (Or.inl rfl) | exact Or.inr (Or.inr rfl)) (hd:(x == ("__debug__" : Str))=false:=by decide)
  (hcd:(x == ("__classdict__" : Str))=false:=by decide):DE X W (.Name x pos) (ak i):=by
 refine DE.of (pe_var hN hv hd hcd) fun σ H pin G own ss Q F w k=>?_
 have w':bA X.kw X.mg W pin G own σ H (match ss[i]? with | some (.im d)=>Out.val (.im d) ss | some (.ow _ _ _) => .val (.sl i) ss | _ => .bad):=w
 cases q:ss[i]? with
 | none=>rw [q] at w'; exact w'.elim
 | some sd=>
  cases sd with
  | un=>rw [q] at w'; exact w'.elim
  | im d=>
   obtain ⟨v,h1,h2⟩:=F.sl.get q
   exact ⟨v,h1,k (.im d) ss v G own H (by unfold ak; rw [q]) (Step.refl _ _ _) F h2⟩
  | ow io s d=>
   obtain ⟨v,g,h1,_,h2⟩:=F.sl.zK q
   exact ⟨v,h1,k (.sl i) ss v G own H (by unfold ak; rw [q]) (Step.refl _ _ _) F h1⟩
theorem Vh {v:V} {d:D} (h:PE X e (tC v)) (r:∀ G,Rep X.kw G v d):DE X W e (aC d):=
 DE.of h fun σ H pin G own ss Q F w k=>k (.im d) ss v G own H rfl (Step.refl _ _ _) F (r G)
theorem bJ {i:Int} {j:Nat} {pos:Pos}:DE X W (.Constant (.int i) j pos) (aC (.int i)):=Vh pe_int fun G => .int i
theorem vJ {b:Bool} {j:Nat} {pos:Pos}:DE X W (.Constant (.bool b) j pos) (aC (.bl b)):=Vh pe_bl fun G => .bl b
theorem Oo {j:Nat} {pos:Pos}:DE X W (.Constant .none j pos) (aC .non):=Vh pe_non fun G => .non
theorem qw {x:Str} {l:List Nat} {j:Nat} {pos:Pos} (h:x.cps.toList=l:=by decide +kernel) (h2:pG l=true:=by decide +kernel):DE X W (.Constant (.str x) j pos) (aC (.str l)):=Vh pe_str fun G=>by
 have q:x=⟨l.toArray⟩:=by
  rw [<- h]
 rw [q]
 exact .str l h2
abbrev F2:=D->D->Option D
def Rd2 (K:Kw) (r:R2) (f:F2):Prop:=∀ (G H:Hp) (x y:V) (d1 d2 d:D) (Q:VK),Ex G H->Top K G H x d1->Top K G H y d2->f d1 d2=some d ->
 (∀ z G' H',aU G H G' H'->Rep K G' z d->Q z H')->r x y H Q
def d7 (X:Cx) (op:Value->Value->Sem Value) (f:F2):Prop:=∀ (pins:List (Addr×Obj)) (s:Shared) (σ:L2.St) (G H:Hp) (x y:V) (u v:Value) (d1 d2 d:D),Inv X pins σ H s->Ex G H->RelV x u->RelV y v->Top X.kw G H x d1->Top X.kw G H y d2 ->
 f d1 d2=some d->wpAny (model X.prog X.w) X.A (op u v) (fun u' s'=>∃ z G' H',Inv X pins σ H' s'/\RelV z u'/\aU G H G' H'/\Rep X.kw G' z d) X.xe s
theorem d7.of {op:Value->Value->Sem Value} {f:F2} {r:R2} (h:OpR X op r) (k:Rd2 X.kw r f):d7 X op f:=fun pins s σ G H x y u v d1 d2 d I e ru rv t1 t2 q=>by
 refine thn (h pins s σ H x y u v (fun z H'=>∃ G',aU G H G' H'/\Rep X.kw G' z d) I ru rv (k G H x y d1 d2 d _ e t1 t2 q fun z G' H' a r=>⟨G',a,r⟩)) fun u' s' ⟨z,H',I',rz,G',a,rr⟩=>?_
 exact ⟨z,G',H',I',rz,a,rr⟩
def dO (f g:F2):F2:=fun a b=>match f a b with
 | some d=>some d
 | none=>g a b
theorem d7.or {op:Value->Value->Sem Value} {f g:F2} (h:d7 X op f) (h':d7 X op g):d7 X op (dO f g):=fun pins s σ G H x y u v d1 d2 d I e ru rv t1 t2 q=>by
 unfold dO at q
 cases z:f d1 d2 with
 | some d'=>
  rw [z] at q; cases q
  exact h pins s σ G H x y u v d1 d2 _ I e ru rv t1 t2 z
 | none=>
  rw [z] at q
  exact h' pins s σ G H x y u v d1 d2 _ I e ru rv t1 t2 q
def aD (f:F2) (A B:AE):AE:=fun ss=>(A ss).bind fun r1 s1=>(B s1).bind fun r2 s2=>Out.ofD ((r1.get s2).bind fun d1=>(r2.get s2).bind fun d2=>f d1 d2) s2
theorem HJ {a b:Expr} {f:F2} {op:Value->Value->Sem Value} (ho:d7 X op f) (ha:DE X W a A) (hb:DE X W b B) (I:Inv X pins σ H s) (F:Fm X.kw pin G own σ H ss) (w:bA X.kw X.mg W pin G own σ H (aD f A B ss)) :
  wpAny (model X.prog X.w) X.A (eval a X.env) (fun u1 s1=>wpAny (model X.prog X.w) X.A (eval b X.env) (fun u2 s2=>wpAny (model X.prog X.w) X.A (op u1 u2) (EPost X pins σ pin G own H (aD f A B ss)) X.xe s2) X.xe s1) X.xe s:=by
 refine thn (ha.go I F w.bind1) fun u1 s1 ⟨r1,ss1,x,H1,G1,own1,e1,I1,rx,st1,F1,k1⟩=>?_
 have w1:=(w.JF e1).step st1
 refine thn (hb.go I1 F1 w1.bind1) fun u2 s2 ⟨r2,ss2,y,H2,G2,cV,e2,I2,ry,st2,F2,k2⟩=>?_
 have w2:=(w1.JF e2).step st2
 have eq:aD f A B ss=Out.ofD ((r1.get ss2).bind fun d1=>(r2.get ss2).bind fun d2=>f d1 d2) ss2:=by
  unfold aD; rw [e1]; show (B ss1).bind _=_; rw [e2]; rfl
 rw [eq]
 cases q1:r1.get ss2 with
 | none=>rw [q1] at w2; exact w2.elim
 | some d1=>
  rw [q1] at w2
  cases q2:r2.get ss2 with
  | none=>rw [q2] at w2; exact w2.elim
  | some d2=>
   rw [q2] at w2
   cases q3:f d1 d2 with
   | none=>
    have w3:bA X.kw X.mg W pin G2 cV σ H2 (Out.ofD (f d1 d2) ss2):=w2
    rw [q3] at w3; exact w3.elim
   | some d=>
    refine thn (ho pins s2 σ G2 H2 x y u1 u2 d1 d2 d I2 F2.ex rx ry (F2.top (k1.mono st2.g) q1) (F2.top k2 q2) q3) fun u' s' ⟨z,G',H',I',rz,al,rr⟩=>?_
    refine ⟨.im d,ss2,z,H',G',cV,?_,I',rz,(st1.trans st2).trans (al.step cV.flatten),F2.alloc al,rr⟩
    show Out.ofD (f d1 d2) ss2=_
    rw [q3]; rfl
theorem cU {a b:Expr} {f:F2} {op:Operator} {pos:Pos} (ho:d7 X (binaryOp op) f) (ha:DE X W a A) (hb:DE X W b B):DE X W (.BinOp a op b pos) (aD f A B):=
 DE.mk fun pins s σ H pin G own ss I F w=>wpAny_BinOp (HJ ho ha hb I F w)
theorem Fv {a b:Expr} {f:F2} {op:CmpOp} {pos:Pos} (ho:d7 X (compareOp op) f) (ha:DE X W a A) (hb:DE X W b B) (hm:behindInMarks op b=false):DE X W (.Compare a [op] [b] pos) (aD f A B):=
 DE.mk fun pins s σ H pin G own ss I F w=>wpAny_Compare1 (HJ ho ha hb I F w) hm
end
end DL
namespace DL
open PySem PySem.Spec PyProof.Rows L2
section
variable {K:Kw} {G H:Hp} {x:V}
theorem Top.vInt {i:Int} (h:Top K G H x (.int i)):x = .int i:=by cases h with | im r=>cases r; rfl
theorem Top.vBl {b:Bool} (h:Top K G H x (.bl b)):x = .bl b:=by cases h with | im r=>cases r; rfl
theorem Top.abA (h:Top K G H x .non):x = .non:=by cases h with | im r=>cases r; rfl
theorem Top.vStr {l:List Nat} (h:Top K G H x (.str l)):x = .str ⟨l.toArray⟩/\pG l=true:=by cases h with | im r=>cases r with | str _ h=>exact ⟨rfl,h⟩
theorem Top.Jg {ds:List D} (h:Top K G H x (.tup ds)):∃ p xs,x = .ref p/\SqT K G p xs/\au K G xs ds:=by cases h with | im r=>cases r with | tup a b=>exact ⟨_,_,rfl,a,b⟩
theorem Top.K9 {ds:List D} (e:Ex G H) (h:Top K G H x (.lst ds)):∃ p xs,x = .ref p/\SqL K H p xs/\au K G xs ds:=by
 cases h with
 | im r=>cases r with | lst a b=>exact ⟨_,_,rfl,SqL.of (e _ _ a),b⟩
 | lst a b=>exact ⟨_,_,rfl,SqL.of a,b⟩
theorem HS {l:List Nat} (h:pG l=true):l.length≤sizeLine:=by
 unfold pG at h; rw [Bool.and_eq_true] at h; exact of_decide_eq_true h.2
theorem Ck {l:List Nat} (h:pG l=true):∀ c∈l,c < 0x110000:=by
 unfold pG at h; rw [Bool.and_eq_true,List.all_eq_true] at h; exact fun c hc=>of_decide_eq_true (h.1 c hc)
theorem Oq {l:List Nat} (h1:∀ c∈l,c < 0x110000) (h2:l.length≤sizeLine):pG l=true:=by
 unfold pG; rw [Bool.and_eq_true,List.all_eq_true]; exact ⟨fun c hc=>decide_eq_true (h1 c hc),decide_eq_true h2⟩
theorem str_len (l:List Nat):(⟨l.toArray⟩:Str).length=l.length:=by show l.toArray.size=_; simp
theorem HW (l:List Nat):(⟨l.toArray⟩:Str).cps.toList=l:=by simp
theorem aaJ (l m:List Nat):(⟨l.toArray⟩:Str)++⟨m.toArray⟩=⟨(l++m).toArray⟩:=by
 show (⟨l.toArray++m.toArray⟩:Str)=_; simp
theorem str_inj {l m:List Nat}:((⟨l.toArray⟩:Str)=⟨m.toArray⟩)↔l=m:=by
 constructor
 ·intro h; have:=congrArg (fun z:Str=>z.cps.toList) h; simpa using this
 ·rintro rfl; rfl
end
mutual
def D.py:D->PyData
 | .non => .none
 | .bl b => .bool b
 | .int i => .int i
 | .str x => .str ⟨x.toArray⟩
 | .tup l => .tuple (D.kZ l)
 | .lst l => .list (D.kZ l)
 | .iH _ _ => .dict []
 | .fz _ => .dict []
 | .ob _ _ _ => .dict []
def D.kZ:List D->List PyData
 | []=>[]
 | d :: l=>D.py d :: D.kZ l
end
mutual
def D.dep:D->Nat
 | .tup l=>D.deps l+1
 | .lst l=>D.deps l+1
 | .iH _ _=>100
 | .fz _=>100
 | .ob _ _ _=>100
 | _=>0
def D.deps:List D->Nat
 | []=>0
 | d :: l=>max (D.dep d) (D.deps l)
end
mutual
theorem Rep.dp {K:Kw} {G:Hp}:∀ {v:V} {d:D},Rep K G v d->D.dep d≤60->Dp K G v d.py/\d.py.canLay0=true/\d.py.depth=D.dep d
 | _,_, .non,_=>⟨.non,rfl,rfl⟩
 | _,_, .bl b,_=>⟨.bl b,rfl,rfl⟩
 | _,_, .int i,_=>⟨.int i,rfl,rfl⟩
 | _,_, .str x h,_=>⟨.str _,by
   show PyData.strOk ⟨x.toArray⟩=true
   unfold PyData.strOk
   rw [Array.all_eq_true']
   intro c hc
   exact decide_eq_true (Ck h c (by simpa using hc)),rfl⟩
 | _,_, .tup (ds:=ds) a b,h=>by
  obtain ⟨h1,h2,h3⟩:=au.dp b (by unfold D.dep at h; omega)
  refine ⟨.tup a h1,by simpa [D.py,PyData.canLay0] using h2,?_⟩
  show PyData.depth (.tuple (D.kZ ds))=D.deps ds+1
  unfold PyData.depth; rw [h3]
 | _,_, .lst (ds:=ds) a b,h=>by
  obtain ⟨h1,h2,h3⟩:=au.dp b (by unfold D.dep at h; omega)
  refine ⟨.lst (SqL.of a) h1,by simpa [D.py,PyData.canLay0] using h2,?_⟩
  show PyData.depth (.list (D.kZ ds))=D.deps ds+1
  unfold PyData.depth; rw [h3]
 | _,_, .dK _ _ _ _,h=>by exact absurd (show 100≤60 from h) (by decide)
 | _,_, .dN _ _ _ _,h=>by exact absurd (show 100≤60 from h) (by decide)
 | _,_, .fz _ _,h=>by exact absurd (show 100≤60 from h) (by decide)
 | _,_, .ob _ _ _,h=>by exact absurd (show 100≤60 from h) (by decide)
 | _,_, .xo _ _ _ _ _,h=>by exact absurd (show 100≤60 from h) (by decide)
theorem au.dp {K:Kw} {G:Hp}:∀ {vs:List V} {ds:List D},au K G vs ds->D.deps ds≤60->DpAll K G vs (D.kZ ds)/\PyData.canLayAll0 (D.kZ ds)=true/\PyData.depthAll (D.kZ ds)=D.deps ds
 | _,_, .nil,_=>⟨.nil,rfl,rfl⟩
 | _,_, .cons (d:=d) (ds:=ds) a b,h=>by
  unfold D.deps at h
  obtain ⟨h1,h2,h3⟩:=Rep.dp a (by omega)
  obtain ⟨g1,g2,g3⟩:=au.dp b (by omega)
  refine ⟨.cons h1 g1,by simp [D.kZ,PyData.canLayAll0,h2,g2],?_⟩
  show PyData.depthAll (d.py :: D.kZ ds)=max (D.dep d) (D.deps ds)
  unfold PyData.depthAll; rw [h3,g3]
end
mutual
theorem Dp.Df {K:Kw} {H H':Hp} (e:Ex H H'):∀ {v:V} {d:PyData},Dp K H v d->Dp K H' v d
 | _,_, .non => .non
 | _,_, .bl b => .bl b
 | _,_, .int i => .int i
 | _,_, .str x => .str x
 | _,_, .lst a b => .lst (e.l a) (DpAll.Df e b)
 | _,_, .tup a b => .tup (e.t a) (DpAll.Df e b)
theorem DpAll.Df {K:Kw} {H H':Hp} (e:Ex H H'):∀ {v:List V} {d:List PyData},DpAll K H v d->DpAll K H' v d
 | _,_, .nil => .nil
 | _,_, .cons a b => .cons (Dp.Df e a) (DpAll.Df e b)
end
theorem Top.dp {K:Kw} {G H:Hp} {v:V} {d:D} (e:Ex G H) (h:Top K G H v d) (hd:D.dep d≤60):Dp K H v d.py/\SeqAt.shaped d.py=true/\d.py.depth=D.dep d:=by
 have fin:Dp K H v d.py/\d.py.canLay0=true/\d.py.depth=D.dep d:=by
  cases h with
  | im r=>
   obtain ⟨h1,h2,h3⟩:=r.dp hd
   exact ⟨Dp.Df e h1,h2,h3⟩
  | lst a b=>
   rename_i p xs ds
   obtain ⟨h1,h2,h3⟩:=b.dp (by unfold D.dep at hd; omega)
   refine ⟨.lst (SqL.of a) (DpAll.Df e h1),by simpa [D.py,PyData.canLay0] using h2,?_⟩
   show PyData.depth (.list (D.kZ ds))=D.deps ds+1
   unfold PyData.depth; rw [h3]
  | dK a b _ c=>exact absurd (show 100≤60 from hd) (by decide)
  | dN a b _ c=>exact absurd (show 100≤60 from hd) (by decide)
 refine ⟨fin.1,?_,fin.2.2⟩
 unfold SeqAt.shaped
 rw [fin.2.1,fin.2.2,Bool.true_and]
 exact decide_eq_true (by omega)
mutual
def D.eqv:D->D->Bool
 | .non, .non=>true
 | .bl a, .bl b=>a == b
 | .bl a, .int j=>(if a then 1 else 0) == j
 | .int i, .bl b=>i == (if b then 1 else 0)
 | .int i, .int j=>i == j
 | .str x, .str y=>x == y
 | .lst xs, .lst ys=>D.eqvs xs ys
 | .tup xs, .tup ys=>D.eqvs xs ys
 | _,_=>false
def D.eqvs:List D->List D->Bool
 | [],[]=>true
 | x :: xs,y :: ys=>D.eqv x y && D.eqvs xs ys
 | _,_=>false
end
mutual
theorem D.JG:∀ (a b:D),PyData.eqv a.py b.py=D.eqv a b
 | .non,b=>by cases b <;> simp [D.py,PyData.eqv,D.eqv]
 | .bl a,b=>by cases b <;> simp [D.py,PyData.eqv,D.eqv]
 | .int i,b=>by cases b <;> simp [D.py,PyData.eqv,D.eqv]
 | .str x,b=>by
  cases b <;> simp [D.py,PyData.eqv,D.eqv]
  rename_i y
  rw [Bool.eq_iff_iff,beq_iff_eq,beq_iff_eq,str_inj]
 | .lst l,b=>by cases b <;> simp [D.py,PyData.eqv,D.eqv,D.La l]
 | .tup l,b=>by cases b <;> simp [D.py,PyData.eqv,D.eqv,D.La l]
 | .iH t l,b=>by cases b <;> simp [D.py,PyData.eqv,D.eqv]
 | .fz l,b=>by cases b <;> simp [D.py,PyData.eqv,D.eqv]
 | .ob c f l,b=>by cases b <;> simp [D.py,PyData.eqv,D.eqv]
theorem D.La:∀ (a b:List D),PyData.eqvAll (D.kZ a) (D.kZ b)=D.eqvs a b
 | [],b=>by cases b <;> simp [D.kZ,PyData.eqvAll,D.eqvs]
 | x :: l,b=>by cases b <;> simp [D.kZ,PyData.eqvAll,D.eqvs,D.JG x,D.La l]
end
mutual
def D.same:D->D->Bool
 | .bl _, .int _=>false
 | .int _, .bl _=>false
 | .lst xs, .lst ys=>D.Vi xs ys
 | .tup xs, .tup ys=>D.Vi xs ys
 | .iH _ _,_=>false
 | _, .iH _ _=>false
 | .fz _,_=>false
 | _, .fz _=>false
 | .ob _ _ _,_=>false
 | _, .ob _ _ _=>false
 | _,_=>true
def D.Vi:List D->List D->Bool
 | x :: xs,y :: ys=>D.same x y && D.Vi xs ys
 | _,_=>true
end
mutual
def D.lt:D->D->Bool
 | .bl a, .bl b=>decide (b2i a < b2i b)
 | .int a, .int b=>decide (a < b)
 | .str a, .str b=>decide (a < b)
 | .lst a, .lst b=>D.Ot a b
 | .tup a, .tup b=>D.Ot a b
 | _,_=>false
def D.Ot:List D->List D->Bool
 | _,[]=>false
 | [],_ :: _=>true
 | x :: xs,y :: ys=>if D.eqv x y then D.Ot xs ys else D.lt x y
end
mutual
def D.alike:D->D->Bool
 | .non, .non=>true
 | .bl _, .bl _=>true
 | .int _, .int _=>true
 | .str _, .str _=>true
 | .lst xs, .lst ys=>D.wu xs ys
 | .tup xs, .tup ys=>D.wu xs ys
 | _,_=>false
def D.wu:List D->List D->Bool
 | x :: xs,y :: ys=>D.alike x y && D.wu xs ys
 | _,_=>true
end
mutual
theorem D.Jh:∀ (a b:D),PySem.W.alike a.py b.py=D.alike a b
 | .non,b=>by cases b <;> simp [D.py,PySem.W.alike,D.alike]
 | .bl a,b=>by cases b <;> simp [D.py,PySem.W.alike,D.alike]
 | .int i,b=>by cases b <;> simp [D.py,PySem.W.alike,D.alike]
 | .str x,b=>by cases b <;> simp [D.py,PySem.W.alike,D.alike]
 | .lst l,b=>by cases b <;> simp [D.py,PySem.W.alike,D.alike,D.Fw l]
 | .tup l,b=>by cases b <;> simp [D.py,PySem.W.alike,D.alike,D.Fw l]
 | .iH t l,b=>by cases b <;> simp [D.py,PySem.W.alike,D.alike]
 | .fz l,b=>by cases b <;> simp [D.py,PySem.W.alike,D.alike]
 | .ob c f l,b=>by cases b <;> simp [D.py,PySem.W.alike,D.alike]
theorem D.Fw:∀ (a b:List D),PySem.W.alikeAll (D.kZ a) (D.kZ b)=D.wu a b
 | [],b=>by cases b <;> simp [D.kZ,PySem.W.alikeAll,D.wu]
 | x :: l,b=>by cases b <;> simp [D.kZ,PySem.W.alikeAll,D.wu,D.Jh x,D.Fw l]
end
end DL
namespace DL
open PySem PySem.Spec PyProof.Rows L2
mutual
theorem D.Zv:∀ (a b:D),D.alike a b=true->PySem.W.dataLt a.py b.py=D.lt a b
 | .non,b,h=>by
  cases b <;> simp [D.alike] at h
  show PySem.W.dataLt .none .none=D.lt .non .non
  unfold D.lt
  decide +kernel
 | .bl a,b,h=>by
  cases b <;> simp [D.alike] at h
  show PySem.W.dataLt (.bool _) (.bool _)=_
  rw [PySem.W.dataLt_bool]; rfl
 | .int i,b,h=>by
  cases b <;> simp [D.alike] at h
  show PySem.W.dataLt (.int _) (.int _)=_
  rw [PySem.W.dataLt_int]; rfl
 | .str x,b,h=>by
  cases b <;> simp [D.alike] at h
  show PySem.W.dataLt (.str _) (.str _)=_
  rw [PySem.W.dataLt_str]; simp [D.lt]
 | .lst l,b,h=>by
  cases b <;> simp [D.alike] at h
  show PySem.W.dataLt (.list _) (.list _)=_
  rw [PySem.W.dataLt_list]
  exact D.Ou l _ h
 | .tup l,b,h=>by
  cases b <;> simp [D.alike] at h
  show PySem.W.dataLt (.tuple _) (.tuple _)=_
  rw [PySem.W.dataLt_tuple]
  exact D.Ou l _ h
 | .iH t l,b,h=>by cases b <;> simp [D.alike] at h
 | .fz l,b,h=>by cases b <;> simp [D.alike] at h
 | .ob c f l,b,h=>by cases b <;> simp [D.alike] at h
theorem D.Ou:∀ (a b:List D),D.wu a b=true->PyProof.Rows.lexLt itemOrd (PySem.W.keyToksAll (D.kZ a)) (PySem.W.keyToksAll (D.kZ b))=D.Ot a b
 | [],[],_=>by
  unfold D.Ot D.kZ PySem.W.keyToksAll; decide +kernel
 | [],y :: m,_=>by
  unfold D.Ot D.kZ
  rw [PySem.W.toks_all_cons]
  unfold PySem.W.keyToksAll
  rw [PySem.W.lex_atom (by simp)]
  decide +kernel
 | x :: l,[],_=>by
  unfold D.Ot
  show PyProof.Rows.lexLt itemOrd (PySem.W.keyToksAll (D.py x :: D.kZ l)) (PySem.W.keyToksAll [])=false
  rw [PySem.W.toks_all_cons]
  show PyProof.Rows.lexLt itemOrd _ [.inl 0]=false
  rw [PySem.W.lex_atom (by simp)]
  decide +kernel
 | x :: l,y :: m,h=>by
  have h':(D.alike x y && D.wu l m)=true:=h
  rw [Bool.and_eq_true] at h'
  show PyProof.Rows.lexLt itemOrd (PySem.W.keyToksAll (D.py x :: D.kZ l)) (PySem.W.keyToksAll (D.py y :: D.kZ m))=_
  rw [PySem.W.dataLt_cons (by rw [D.Jh]; exact h'.1),D.JG,D.Ou l m h'.2,D.Zv x y h'.1]
  rfl
end
def JH:F2
 | .int i, .int j=>some (.int (i+j))
 | _,_=>none
def JK:F2
 | .str x, .str y=>if x.length+y.length≤sizeLine then some (.str (x++y)) else none
 | _,_=>none
def JL:F2
 | .tup x, .tup y=>if x.length+y.length≤sizeLine then some (.tup (x++y)) else none
 | _,_=>none
def JM:F2
 | .lst x, .lst y=>if x.length+y.length≤sizeLine then some (.lst (x++y)) else none
 | _,_=>none
def iV:F2:=dO JH (dO JK (dO JL JM))
def Ji:F2
 | .int i, .int j=>some (.int (i - j))
 | _,_=>none
def pQ:F2
 | .int i, .int j=>if (-(2 ^ 64) < i/\i < 2 ^ 64)\/(-(2 ^ 64) < j/\j < 2 ^ 64) then some (.int (i * j)) else none
 | _,_=>none
def NZ:F2
 | .int i, .int j=>if 0 < j/\j < 1073741824 then some (.int (i / j)) else none
 | _,_=>none
def mU:F2
 | .int i, .int j=>if 0 < j then some (.int (i % j)) else none
 | _,_=>none
def Vj:F2
 | .int i, .int j=>if 0≤j/\j≤1000000/\i.natAbs < 2 ^ 64 then some (.int (i ^ j.toNat)) else none
 | _,_=>none
def tH:F2:=fun a b=>if D.dep a≤60/\D.dep b≤60 then some (.bl (D.eqv a b)) else none
def Fx:F2:=fun a b=>if D.dep a≤60/\D.dep b≤60 then some (.bl (!D.eqv a b)) else none
def Yi:F2
 | .int i, .int j=>some (.bl (decide (i < j)))
 | _,_=>none
def Yj:F2
 | .str i, .str j=>some (.bl (decide (i < j)))
 | _,_=>none
def Yk:F2
 | .tup x, .tup y=>if D.alike (.tup x) (.tup y)=true/\D.dep (.tup x)≤60/\D.dep (.tup y)≤60 then some (.bl (D.lt (.tup x) (.tup y))) else none
 | _,_=>none
def Zw:F2:=dO Yi (dO Yj Yk)
def Yl:F2
 | .int i, .int j=>some (.bl (decide (j≤i)))
 | _,_=>none
def Ym:F2
 | .str i, .str j=>some (.bl (!decide (i < j)))
 | _,_=>none
def dGe:F2:=dO Yl Ym
def Ld:F2
 | a, .non=>some (.bl (match a with | .non=>true | _=>false))
 | _,_=>none
section
variable {X:Cx}
theorem N5 {op:Value->Value->Sem Value} {g:Int->Int->V} {f:F2} (ho:OpR X op (rI0 g)) (hf:∀ a b d,f a b=some d->∃ i j,a = .int i/\b = .int j/\∀ G,Rep X.kw G (g i j) d):d7 X op f:=
 d7.of ho fun G H x y d1 d2 d Q e t1 t2 h q=>by
  obtain ⟨i,j,rfl,rfl,r⟩:=hf _ _ _ h
  obtain rfl:=t1.vInt
  obtain rfl:=t2.vInt
  exact ⟨i,j,rfl,rfl,q _ G H (aU.refl e) (r G)⟩
theorem N6 {op:Value->Value->Sem Value} {C:Int->Int->Prop} {g:Int->Int->V} {f:F2} (ho:OpR X op (rI C g)) (hf:∀ a b d,f a b=some d->∃ i j,a = .int i/\b = .int j/\C i j/\∀ G,Rep X.kw G (g i j) d):d7 X op f:=
 d7.of ho fun G H x y d1 d2 d Q e t1 t2 h q=>by
  obtain ⟨i,j,rfl,rfl,c,r⟩:=hf _ _ _ h
  obtain rfl:=t1.vInt
  obtain rfl:=t2.vInt
  exact ⟨i,j,rfl,rfl,c,q _ G H (aU.refl e) (r G)⟩
theorem aaK:d7 X (binaryOp .Add) JH:=N5 op_add fun a b d h=>by
 unfold JH at h; split at h <;> cases h; exact ⟨_,_,rfl,rfl,fun G => .int _⟩
theorem Ws:d7 X (binaryOp .Sub) Ji:=N5 op_sub fun a b d h=>by
 unfold Ji at h; split at h <;> cases h; exact ⟨_,_,rfl,rfl,fun G => .int _⟩
theorem Cm:d7 X (binaryOp .Mult) pQ:=N6 op_mul fun a b d h=>by
 unfold pQ at h
 split at h
 ·split at h
  ·rename_i c; cases h; exact ⟨_,_,rfl,rfl,c,fun G => .int _⟩
  ·cases h
 ·cases h
theorem aaL:d7 X (binaryOp .FloorDiv) NZ:=N6 op_fdiv fun a b d h=>by
 unfold NZ at h
 split at h
 ·split at h
  ·rename_i c; cases h; exact ⟨_,_,rfl,rfl,c,fun G => .int _⟩
  ·cases h
 ·cases h
theorem wz:d7 X (binaryOp .Mod) mU:=N6 op_mod fun a b d h=>by
 unfold mU at h
 split at h
 ·split at h
  ·rename_i c; cases h; exact ⟨_,_,rfl,rfl,c,fun G => .int _⟩
  ·cases h
 ·cases h
theorem abC:d7 X (binaryOp .Pow) Vj:=N6 op_pow fun a b d h=>by
 unfold Vj at h
 split at h
 ·split at h
  ·rename_i c; cases h; exact ⟨_,_,rfl,rfl,c,fun G => .int _⟩
  ·cases h
 ·cases h
theorem aaM {x y:List Nat} (hx:pG x=true) (hy:pG y=true) (hz:x.length+y.length≤sizeLine):pG (x++y)=true:=
 Oq (fun c hc=>by
  rcases List.mem_append.mp hc with h | h
  ·exact Ck hx c h
  ·exact Ck hy c h) (by rw [List.length_append]; exact hz)
theorem aaN:d7 X (binaryOp .Add) JK:=d7.of op_add_str fun G H x y d1 d2 d Q e t1 t2 h q=>by
 unfold JK at h
 split at h
 ·split at h
  ·rename_i c
   cases h
   obtain ⟨rfl,h1⟩:=t1.vStr
   obtain ⟨rfl,h2⟩:=t2.vStr
   exact ⟨_,_,rfl,rfl,by rw [str_len,str_len]; exact c,q _ G H (aU.refl e) (by rw [aaJ]; exact .str _ (aaM h1 h2 c))⟩
  ·cases h
 ·cases h
theorem aaO:d7 X (binaryOp .Add) JL:=d7.of op_catA fun G H x y d1 d2 d Q e t1 t2 h q=>by
 unfold JL at h
 split at h
 ·split at h
  ·rename_i c
   cases h
   obtain ⟨p1,x1,rfl,a1,b1⟩:=t1.Jg
   obtain ⟨p2,x2,rfl,a2,b2⟩:=t2.Jg
   refine ⟨p1,p2,x1,x2,rfl,rfl,e.t a1,e.t a2,by rw [b1.length,b2.length]; exact c,fun z=>?_,fun z z2=>?_,fun _ _ p hp=>?_⟩
   ·subst z
    cases b1
    exact q _ G H (aU.refl e) (.tup a2 b2)
   ·subst z2
    cases b2
    rw [List.append_nil] at q
    exact q _ G H (aU.refl e) (.tup a1 b1)
   ·exact q _ _ _ (aU.new e hp) (.tup (SqT.of upd_same) ((b1.append b2).mono (Ex.new (e.free hp))))
  ·cases h
 ·cases h
theorem aaP:d7 X (binaryOp .Add) JM:=by
 intro pins s σ G H x y u v d1 d2 d I e ru rv t1 t2 h
 unfold JM at h
 split at h
 ·split at h
  ·rename_i c
   cases h
   obtain ⟨p1,x1,rfl,a1,b1⟩:=t1.K9 e
   obtain ⟨p2,x2,rfl,a2,b2⟩:=t2.K9 e
   cases ru
   cases rv
   obtain ⟨its,r,pl,hz⟩:=I.list a1
   obtain ⟨its2,r2,pl2,hz2⟩:=I.list a2
   obtain ⟨⟨cls,dd,data,sl⟩,ho,hc,n,hd⟩:=pl.isList
   obtain ⟨⟨cls2,dd2,data2,sl2⟩,ho2,hc2,n2,hd2⟩:=pl2.isList
   simp only at hc hd hc2 hd2
   subst hc hd hc2 hd2
   have q:its.toArray++its2.toArray=(its++its2).toArray:=by simp
   have hsz:(x1++x2).length≤sizeLine:=by rw [List.length_append,b1.length,b2.length]; exact c
   refine concat_meets ⟨_,ho,rfl⟩ ⟨_,ho2,rfl⟩ noFill_list_add seq_list_add PySem.F.slot_list_add PySem.F.entry_list_add (PySem.F.args_list_add_2 _ _) (list_addW p1 p2 its.toArray its2.toArray n n2 dd dd2 sl sl2 (by
    rw [List.length_append,r.length,r2.length] at hsz; simpa using hsz)) ⟨ho,ho2,?_⟩
   rw [q]
   refine ⟨.ref s.heap.objs.size,upd G s.heap.objs.size (.lst (x1++x2)),upd H s.heap.objs.size (.lst (x1++x2)),I.lnew (t':=s.toks) (r.append r2) hsz,rfl,aU.new e I.fresh, .lst upd_same ((b1.append b2).mono (Ex.new (e.free I.fresh)))⟩
  ·cases h
 ·cases h
theorem tK:d7 X (binaryOp .Add) iV:=aaK.or (aaN.or (aaO.or aaP))
theorem Dg (hu:X.A.units+64 < cLine):d7 X (compareOp .Eq) tH:=d7.of (op_eqD hu) fun G H x y d1 d2 d Q e t1 t2 h q=>by
 unfold tH at h
 split at h
 ·rename_i c
  cases h
  obtain ⟨a1,b1,_⟩:=t1.dp e c.1
  obtain ⟨a2,b2,_⟩:=t2.dp e c.2
  exact ⟨_,_,a1,a2,b1,b2,q _ G H (aU.refl e) (by rw [D.JG]; exact .bl _)⟩
 ·cases h
theorem Zx (hu:X.A.units+64 < cLine):d7 X (compareOp .NotEq) Fx:=d7.of (op_neD hu) fun G H x y d1 d2 d Q e t1 t2 h q=>by
 unfold Fx at h
 split at h
 ·rename_i c
  cases h
  obtain ⟨a1,b1,_⟩:=t1.dp e c.1
  obtain ⟨a2,b2,_⟩:=t2.dp e c.2
  exact ⟨_,_,a1,a2,b1,b2,q _ G H (aU.refl e) (by rw [D.JG]; exact .bl _)⟩
 ·cases h
theorem abD:d7 X (compareOp .Lt) Yi:=N5 op_lt fun a b d h=>by
 unfold Yi at h; split at h <;> cases h; exact ⟨_,_,rfl,rfl,fun G => .bl _⟩
theorem abE:d7 X (compareOp .GtE) Yl:=N5 op_ge fun a b d h=>by
 unfold Yl at h; split at h <;> cases h; exact ⟨_,_,rfl,rfl,fun G => .bl _⟩
theorem Zy {op:Value->Value->Sem Value} {g:List Nat->List Nat->Bool} {f:F2} (ho:OpR X op (fun x y H Q=>∃ i j,x = .str i/\y = .str j/\Q (.bl (g i.cps.toList j.cps.toList)) H)) (hf:∀ a b d,f a b=some d->∃ i j,a = .str i/\b = .str j/\d = .bl (g i j)):d7 X op f:=
 d7.of ho fun G H x y d1 d2 d Q e t1 t2 h q=>by
  obtain ⟨i,j,rfl,rfl,rfl⟩:=hf _ _ _ h
  obtain ⟨rfl,_⟩:=t1.vStr
  obtain ⟨rfl,_⟩:=t2.vStr
  exact ⟨_,_,rfl,rfl,q _ G H (aU.refl e) (by rw [HW,HW]; exact .bl _)⟩
theorem abF:d7 X (compareOp .Lt) Yj:=Zy (g:=fun i j=>decide (i < j)) op_lt_str fun a b d h=>by
 unfold Yj at h; split at h <;> cases h; exact ⟨_,_,rfl,rfl,rfl⟩
theorem abG:d7 X (compareOp .GtE) Ym:=Zy (g:=fun i j=>!decide (i < j)) op_ge_str fun a b d h=>by
 unfold Ym at h; split at h <;> cases h; exact ⟨_,_,rfl,rfl,rfl⟩
theorem abH (hu:X.A.units+64 < cLine):d7 X (compareOp .Lt) Yk:=by
 intro pins s σ G H x y u v d1 d2 d I e ru rv t1 t2 h
 unfold Yk at h
 split at h
 ·split at h
  ·rename_i c
   cases h
   obtain ⟨a1,b1,c1⟩:=t1.dp e c.2.1
   obtain ⟨a2,b2,c2⟩:=t2.dp e c.2.2
   obtain ⟨as,r1⟩:=Dp.reads I _ _ _ a1 ru
   obtain ⟨bs,r2⟩:=Dp.reads I _ _ _ a2 rv
   have key:=PySem.W.rcLt_alike _ _ X.A s u v _ _ r1 r2 (by rw [D.Jh]; exact c.1) (fun z=>by cases z) (by
    rw [c1,c2]; have:=c.2.1; omega)
   refine key X.prog X.w X.xe _ ?_
   exact ⟨.bl _,G,H,I,rfl,aU.refl e,by rw [D.Zv _ _ c.1]; exact .bl _⟩
  ·cases h
 ·cases h
theorem acZ (hu:X.A.units+64 < cLine):d7 X (compareOp .Lt) Zw:=abD.or (abF.or (abH hu))
theorem ac0:d7 X (compareOp .GtE) dGe:=abE.or abG
theorem Wt:d7 X (compareOp .Is) Ld:=d7.of op_isN fun G H x y d1 d2 d Q e t1 t2 h q=>by
 unfold Ld at h
 split at h
 ·cases h
  obtain rfl:=t2.abA
  refine ⟨rfl,q _ G H (aU.refl e) ?_⟩
  cases t1 with
  | im r=>cases r <;> exact .bl _
  | _=>exact .bl _
 ·cases h
end
end DL
namespace DL
open PySem PySem.Spec PyProof.Rows L2
def Out.bindB (o:Out) (k:Bool->List SD->Out):Out:=match o with
 | .bad => .bad
 | .val (.im (.bl b)) ss=>k b ss
 | .val _ _ => .bad
 | .exc c fs ss => .exc c fs ss
def Out.isB:Out->Prop
 | .val (.im (.bl _)) _=>True
 | .exc _ _ _=>True
 | _=>False
section
variable {K:Kw} {mg:Str->Option Value} {W:WX} {pin:L2.St} {G H G1 H1:Hp} {own own1:List (List Addr)} {σ:L2.St} {ss ss':List SD} {o:Out}
theorem bA.wA {k:Bool->List SD->Out} (w:bA K mg W pin G own σ H (o.bindB k)):bA K mg W pin G own σ H o/\o.isB:=by
 cases o with
 | bad=>exact absurd w id
 | val r ss'=>
  cases r with
  | im d=>
   cases d <;> first | exact ⟨trivial,trivial⟩ | exact absurd w id
  | sl i=>exact absurd w id
 | exc c fs ss'=>exact ⟨w,trivial⟩
theorem bA.Ov {k:Bool->List SD->Out} {b:Bool} (e:o = .val (.im (.bl b)) ss') (w:bA K mg W pin G own σ H (o.bindB k)):bA K mg W pin G own σ H (k b ss'):=by
 subst e; exact w
def Wu (K:Kw) (mg:Str->Option Value) (W:WX) (A:AE):TT:=fun σ H Q=>∃ pin G own ss,Fm K pin G own σ H ss/\(bA K mg W pin G own σ H (A ss)/\(A ss).isB) /\
 ∀ b ss' G' own' H',A ss = .val (.im (.bl b)) ss'->Step own.flatten G H own'.flatten G' H'->Fm K pin G' own' σ H' ss'->Q b H'
end
abbrev DT (X:Cx) (W:WX) (e:Expr) (A:AE):Prop:=PT X e (Wu X.kw X.mg W A)
abbrev DW (X:Cx) (W:WX) (e:Expr) (A:AE):Prop:=PW X e (Wu X.kw X.mg W A)
def yj (X:Cx) (pins:List (Addr×Obj)) (σ:L2.St) (pin:L2.St) (G:Hp) (own:List (List Addr)) (H:Hp) (o:Out) (b:Bool) (s':Shared):Prop:=
 ∃ ss' H' G' own',o = .val (.im (.bl b)) ss'/\Inv X pins σ H' s'/\Step own.flatten G H own'.flatten G' H'/\Fm X.kw pin G' own' σ H' ss'
section
variable {X:Cx} {W:WX} {e a b c:Expr} {A B C:AE} {pins:List (Addr×Obj)} {s:Shared} {σ:L2.St} {G H:Hp} {pin:L2.St} {own:List (List Addr)} {ss ss':List SD} {pos:Pos}
theorem DT.go (h:DT X W e A) (I:Inv X pins σ H s) (F:Fm X.kw pin G own σ H ss) (w:bA X.kw X.mg W pin G own σ H (A ss)/\(A ss).isB) :
  wpAny (model X.prog X.w) X.A (isTrue e X.env (eval e X.env)) (yj X pins σ pin G own H (A ss)) X.xe s:=by
 refine thn (h.run pins s σ H (fun b H'=>∃ ss' G' own',A ss = .val (.im (.bl b)) ss'/\Step own.flatten G H own'.flatten G' H'/\Fm X.kw pin G' own' σ H' ss') I ⟨pin,G,own,ss,F,w,fun b ss' G' own' H' e st F'=>⟨ss',G',own',e,st,F'⟩⟩) fun u s1 ⟨H1,I1,ss',G',own',e,st,F'⟩=>?_
 exact ⟨ss',H1,G',own',e,I1,st,F'⟩
theorem DW.go (h:DW X W e A) (whole:Sem Value) (I:Inv X pins σ H s) (F:Fm X.kw pin G own σ H ss) (w:bA X.kw X.mg W pin G own σ H (A ss)/\(A ss).isB) :
  wpAny (model X.prog X.w) X.A (isTrue e X.env whole) (yj X pins σ pin G own H (A ss)) X.xe s:=by
 refine thn (h.run whole pins s σ H (fun b H'=>∃ ss' G' own',A ss = .val (.im (.bl b)) ss'/\Step own.flatten G H own'.flatten G' H'/\Fm X.kw pin G' own' σ H' ss') I ⟨pin,G,own,ss,F,w,fun b ss' G' own' H' e st F'=>⟨ss',G',own',e,st,F'⟩⟩) fun u s1 ⟨H1,I1,ss',G',own',e,st,F'⟩=>?_
 exact ⟨ss',H1,G',own',e,I1,st,F'⟩
theorem DT.mk (h:∀ (pins:List (Addr×Obj)) (s:Shared) (σ:L2.St) (H:Hp) (pin:L2.St) (G:Hp) (own:List (List Addr)) (ss:List SD),Inv X pins σ H s->Fm X.kw pin G own σ H ss->bA X.kw X.mg W pin G own σ H (A ss)/\(A ss).isB ->
  wpAny (model X.prog X.w) X.A (isTrue e X.env (eval e X.env)) (yj X pins σ pin G own H (A ss)) X.xe s):DT X W e A:=by
 refine ⟨fun pins s σ H Q I h'=>?_⟩
 obtain ⟨pin,G,own,ss,F,w,k⟩:=h'
 exact thn (h pins s σ H pin G own ss I F w) fun u s1 ⟨ss',H1,G',own',e,I1,st,F'⟩=>⟨H1,I1,k u ss' G' own' H1 e st F'⟩
theorem DW.mk (h:∀ (whole:Sem Value) (pins:List (Addr×Obj)) (s:Shared) (σ:L2.St) (H:Hp) (pin:L2.St) (G:Hp) (own:List (List Addr)) (ss:List SD),Inv X pins σ H s->Fm X.kw pin G own σ H ss->bA X.kw X.mg W pin G own σ H (A ss)/\(A ss).isB ->
  wpAny (model X.prog X.w) X.A (isTrue e X.env whole) (yj X pins σ pin G own H (A ss)) X.xe s):DW X W e A:=by
 refine ⟨fun whole pins s σ H Q I h'=>?_⟩
 obtain ⟨pin,G,own,ss,F,w,k⟩:=h'
 exact thn (h whole pins s σ H pin G own ss I F w) fun u s1 ⟨ss',H1,G',own',e,I1,st,F'⟩=>⟨H1,I1,k u ss' G' own' H1 e st F'⟩
theorem DW.dt (h:DW X W e A):DT X W e A:=PW.pt h
theorem EPost.bool {u:Value} {s':Shared} {o:Out} (h:EPost X pins σ pin G own H o u s') (w:o.isB):∃ b,u = .bool b/\yj X pins σ pin G own H o b s':=by
 obtain ⟨r,ss',v,H',G',own',e,I,rv,st,F,k⟩:=h
 subst e
 cases r with
 | im d=>
  cases d <;> try exact absurd w id
  rename_i b
  cases (show Rep X.kw G' v (.bl b) from k)
  cases rv
  exact ⟨b,rfl,ss',H',G',own',rfl,I,st,F⟩
 | sl i=>exact absurd w id
theorem jE (h:DE X W e A) (he:∀ whole,isTrue e X.env whole=(do let v <- whole; standAt e.pos; holding [v] (truthy v)):=by intro _; rfl):DT X W e A:=
 DT.mk fun pins s σ H pin G own ss I F w=>by
  refine isTrue_plain (thn (h.go I F w.1) fun u s1 q=>?_) (he _)
  obtain ⟨b,rfl,t⟩:=q.bool w.2
  exact wpAny_truthy_bool t
theorem wB {f:F2} {op:CmpOp} (ho:d7 X (compareOp op) f) (ha:DE X W a A) (hb:DE X W b B) (hm:behindInMarks op b=false):DT X W (.Compare a [op] [b] pos) (aD f A B):=
 DT.mk fun pins s σ H pin G own ss I F w=>by
  refine wpAny_isTrue_Compare1 (thn (HJ ho ha hb I F w.1) fun v s1 h1=>thn h1 fun u s2 h2=>thn h2 fun c s3 q=>?_) hm
  obtain ⟨b,rfl,t⟩:=q.bool w.2
  exact wpAny_truthy_bool t
def u9 (A B:AE):AE:=fun ss=>(A ss).bindB fun b s1=>if b then B s1 else .val (.im (.bl false)) s1
def oA (A B:AE):AE:=fun ss=>(A ss).bindB fun b s1=>if b then .val (.im (.bl true)) s1 else B s1
def jw (A:AE):AE:=fun ss=>(A ss).bindB fun b s1 => .val (.im (.bl (!b))) s1
def aer (C A B:AE):AE:=fun ss=>(C ss).bindB fun b s1=>if b then A s1 else B s1
theorem yj.step {G1 H1:Hp} {own1:List (List Addr)} {o:Out} {b:Bool} {s':Shared} (st:Step own.flatten G H own1.flatten G1 H1) (h:yj X pins σ pin G1 own1 H1 o b s'):yj X pins σ pin G own H o b s':=by
 obtain ⟨ss',H',G',own',e,I,st',F⟩:=h
 exact ⟨ss',H',G',own',e,I,st.trans st',F⟩
theorem EPost.step {G1 H1:Hp} {own1:List (List Addr)} {o:Out} {u:Value} {s':Shared} (st:Step own.flatten G H own1.flatten G1 H1) (h:EPost X pins σ pin G1 own1 H1 o u s'):EPost X pins σ pin G own H o u s':=by
 obtain ⟨r,ss',v,H',G',own',e,I,rv,st',F,k⟩:=h
 exact ⟨r,ss',v,H',G',own',e,I,rv,st.trans st',F,k⟩
theorem Wv {o:Out} {k:Bool->List SD->Out} {b:Bool} (e:o = .val (.im (.bl b)) ss') (h:(o.bindB k).isB):(k b ss').isB:=by subst e; exact h
variable {rest:List Expr}
theorem JN (ha:DT X W a A):DW X W (.BoolOp .Or [a] pos) A:=pw_or1 ha
theorem JQ (ha:DT X W a A) (hb:DW X W (.BoolOp .Or (b :: rest) pos) B):DW X W (.BoolOp .Or (a :: b :: rest) pos) (oA A B):=
 DW.mk fun whole pins s σ H pin G own ss I F w=>by
  refine isTrue_or (thn (ha.go I F w.1.wA) fun k s1 t=>?_)
  obtain ⟨ss1,H1,G1,own1,e1,I1,st1,F1⟩:=t
  have w1:=(w.1.Ov e1).step st1
  have b1:=Wv e1 w.2
  have eq:oA A B ss=if k then .val (.im (.bl true)) ss1 else B ss1:=by unfold oA; rw [e1]; rfl
  rw [eq]
  cases k with
  | false=>exact thn (hb.go whole I1 F1 ⟨w1,b1⟩) fun _ _ t=>t.step st1
  | true=>exact yj.step st1 ⟨ss1,H1,G1,own1,rfl,I1,Step.refl _ _ _,F1⟩
theorem yJ (ha:DT X W a A):DT X W (.UnaryOp .Not a pos) (jw A):=
 DT.mk fun pins s σ H pin G own ss I F w=>by
  refine isTrue_not (thn (ha.go I F w.1.wA) fun k s1 t=>?_)
  obtain ⟨ss1,H1,G1,own1,e1,I1,st1,F1⟩:=t
  exact ⟨ss1,H1,G1,own1,by unfold jw; rw [e1]; rfl,I1,st1,F1⟩
theorem Fy {op:BoolOp} (h:DE X W a A):DE X W (.BoolOp op [a] pos) A:=pe_one h
theorem Cp (ha:DE X W a A) (hb:DE X W (.BoolOp .And (b :: rest) pos) B):DE X W (.BoolOp .And (a :: b :: rest) pos) (u9 A B):=
 DE.mk fun pins s σ H pin G own ss I F w=>by
  refine BoolOp_and (thn (ha.go I F w.wA.1) fun u s1 q=>?_)
  obtain ⟨k,rfl,ss1,H1,G1,own1,e1,I1,st1,F1⟩:=q.bool w.wA.2
  have w1:=(w.Ov e1).step st1
  have eq:u9 A B ss=if k then B ss1 else .val (.im (.bl false)) ss1:=by unfold u9; rw [e1]; rfl
  rw [eq]
  refine wpAny_truthy_bool ?_
  cases k with
  | true=>exact thn (hb.go I1 F1 w1) fun _ _ t=>t.step st1
  | false=>exact EPost.step st1 ⟨.im (.bl false),ss1, .bl false,H1,G1,own1,rfl,I1,rfl,Step.refl _ _ _,F1, .bl false⟩
theorem ac1 (ha:DE X W a A) (hb:DE X W (.BoolOp .Or (b :: rest) pos) B):DE X W (.BoolOp .Or (a :: b :: rest) pos) (oA A B):=
 DE.mk fun pins s σ H pin G own ss I F w=>by
  refine BoolOp_or (thn (ha.go I F w.wA.1) fun u s1 q=>?_)
  obtain ⟨k,rfl,ss1,H1,G1,own1,e1,I1,st1,F1⟩:=q.bool w.wA.2
  have w1:=(w.Ov e1).step st1
  have eq:oA A B ss=if k then .val (.im (.bl true)) ss1 else B ss1:=by unfold oA; rw [e1]; rfl
  rw [eq]
  refine wpAny_truthy_bool ?_
  cases k with
  | false=>exact thn (hb.go I1 F1 w1) fun _ _ t=>t.step st1
  | true=>exact EPost.step st1 ⟨.im (.bl true),ss1, .bl true,H1,G1,own1,rfl,I1,rfl,Step.refl _ _ _,F1, .bl true⟩
theorem Ww (ha:DE X W a A):DE X W (.UnaryOp .Not a pos) (jw A):=
 DE.mk fun pins s σ H pin G own ss I F w=>by
  refine UnaryOp_ (thn (ha.go I F w.wA.1) fun u s1 q=>?_)
  obtain ⟨k,rfl,ss1,H1,G1,own1,e1,I1,st1,F1⟩:=q.bool w.wA.2
  refine not_of (wpAny_truthy_bool ?_)
  exact ⟨.im (.bl (!k)),ss1, .bl (!k),H1,G1,own1,by unfold jw; rw [e1]; rfl,I1,rfl,st1,F1, .bl _⟩
def abI (f g:F2) (A B C:AE):AE:=fun ss=>(A ss).bind fun r1 s1=>(B s1).bind fun r2 s2=>(Out.ofD ((r1.get s2).bind fun d1=>(r2.get s2).bind fun d2=>f d1 d2) s2).bindB fun k s3=>
 if k then (C s3).bind fun r3 s4=>Out.ofD ((r2.get s4).bind fun d2=>(r3.get s4).bind fun d3=>g d2 d3) s4 else .val (.im (.bl false)) s3
theorem vf {K:Kw} {mg:Str->Option Value} {o:Option D} {ss:List SD} (w:bA K mg W pin G own σ H (Out.ofD o ss)):∃ d,o=some d:=by
 cases o with
 | none=>exact absurd w id
 | some d=>exact ⟨d,rfl⟩
end
end DL
namespace DL
open PySem PySem.Spec PyProof.Rows L2
def Dh:F2
 | .lst l, .int i=>atI l i
 | _,_=>none
def Jj:F2
 | .tup l, .int i=>atI l i
 | _,_=>none
def Lf:F2
 | .str x, .int i=>(atI x i).map fun c => .str [c]
 | _,_=>none
section
variable {X:Cx} {W:WX} {e a b c:Expr} {A B C:AE} {pins:List (Addr×Obj)} {s:Shared} {σ:L2.St} {G H:Hp} {pin:L2.St} {own:List (List Addr)} {ss ss':List SD} {pos:Pos}
abbrev wC (X:Cx) (f:F2):Prop:=∀ (a b:Expr),PlainIx b->d7 X (fun u v=>subscriptTail a b u v) f
theorem wC.of {f:F2} {r:R2} (h:IxR X r) (k:Rd2 X.kw r f):wC X f:=fun a b hs=>d7.of (fun pins s σ H x y v u Q I rx ry q=>h a b pins s σ H x y v u Q I rx ry q (hs _ _)) k
theorem wC.or {f g:F2} (h:wC X f) (h':wC X g):wC X (dO f g):=fun a b hs=>d7.or (h a b hs) (h' a b hs)
theorem atI_get {K:Kw} {vs:List V} {ds:List D} {i:Int} {d:D} (r:au K G vs ds) (h:atI ds i=some d):∃ v,atI vs i=some v/\Rep K G v d:=by
 unfold atI at h ⊢
 rw [r.length]
 cases q:ixN ds.length i with
 | none=>rw [q] at h; cases h
 | some j=>
  rw [q] at h
  obtain ⟨v,h1,h2⟩:=r.get (show ds[j]? = some d from h)
  exact ⟨v,h1,h2⟩
theorem abJ:wC X Dh:=wC.of ix_list fun G H x y d1 d2 d Q e t1 t2 h q=>by
 unfold Dh at h
 split at h
 ·obtain ⟨p,xs,rfl,a,b⟩:=t1.K9 e
  obtain rfl:=t2.vInt
  obtain ⟨v,h1,h2⟩:=atI_get b h
  exact ⟨p,xs,_,v,rfl,rfl,a,h1,q _ G H (aU.refl e) h2⟩
 ·cases h
theorem abK:wC X Jj:=wC.of ix_tup fun G H x y d1 d2 d Q e t1 t2 h q=>by
 unfold Jj at h
 split at h
 ·obtain ⟨p,xs,rfl,a,b⟩:=t1.Jg
  obtain rfl:=t2.vInt
  obtain ⟨v,h1,h2⟩:=atI_get b h
  exact ⟨p,xs,_,v,rfl,rfl,e.t a,h1,q _ G H (aU.refl e) h2⟩
 ·cases h
theorem Uh {x:List Nat} (h:pG x=true) {c:Nat} (hc:c∈x):pG [c]=true:=Oq (fun c' hc'=>by
 rw [List.mem_singleton] at hc'; subst hc'; exact Ck h _ hc) (by rw [sizeLine_eq]; show 1≤16777216; decide)
theorem aaQ {α:Type} {l:List α} {i:Int} {x:α} (h:atI l i=some x):x∈l:=by
 unfold atI at h
 cases q:ixN l.length i with
 | none=>rw [q] at h; cases h
 | some j=>rw [q] at h; exact List.mem_of_getElem? (show l[j]? = some x from h)
theorem abL:wC X Lf:=wC.of ix_str fun G H x y d1 d2 d Q e t1 t2 h q=>by
 unfold Lf at h
 split at h
 ·obtain ⟨rfl,ok⟩:=t1.vStr
  obtain rfl:=t2.vInt
  obtain ⟨c,h1,rfl⟩:=Option.map_eq_some_iff.mp h
  refine ⟨_,_,c,rfl,rfl,by rw [str_len]; exact HS ok,by rw [HW]; exact h1,q _ G H (aU.refl e) (.str [c] (Uh ok (aaQ h1)))⟩
 ·cases h
def Mv:F2:=dO Dh (dO Jj Lf)
theorem ac2:wC X Mv:=abJ.or (abK.or abL)
theorem vK {f:F2} (hi:wC X f) (ha:DE X W a A) (hb:DE X W b B) (hs:PlainIx b):DE X W (.Subscript a b pos) (aD f A B):=
 DE.mk fun pins s σ H pin G own ss I F w=>Subscript_ (HJ (hi a b hs) ha hb I F w)
def cutD {α:Type} (l:List α) (lo hi:Option Int):List α:=(l.drop (HT.sIx l.length 0 lo)).take (HT.sIx l.length l.length hi - HT.sIx l.length 0 lo)
def Wx (d:D) (lo hi:Option Int):Option D:=match d with
 | .lst l=>some (.lst (cutD l lo hi))
 | .tup l=>some (.tup (cutD l lo hi))
 | .str x=>some (.str (cutD x lo hi))
 | .fz l=>some (.lst (cutD l lo hi))
 | _=>none
def vL (L:Option AE) (k:Option Int->List SD->Out):List SD->Out:=match L with
 | none=>fun ss=>k none ss
 | some A=>fun ss=>(A ss).bind fun r s=>match r.get s with
  | some (.int i)=>k (some i) s
  | _ => .bad
def Mw (A:AE) (L U:Option AE):AE:=fun ss=>(A ss).bind fun r s1=>vL L (fun lo s2=>vL U (fun hi s3=>Out.ofD ((r.get s3).bind fun d=>Wx d lo hi) s3) s2) s1
theorem Jk {K:Kw} {xs:List V} {ds:List D} (r:au K G xs ds) (lo hi:Option Int):au K G (cutV xs lo hi) (cutD ds lo hi):=by
 unfold cutV cutD; rw [r.length]; exact (r.drop _).take _
theorem aaR {x y:List Nat} (h:pG x=true) (hm:∀ c∈y,c∈x) (hl:y.length≤x.length):pG y=true:=Oq (fun c hc=>Ck h c (hm c hc)) (Nat.le_trans hl (HS h))
theorem Ow {α:Type} (l:List α) (lo hi:Option Int):(∀ c∈cutD l lo hi,c∈l)/\(cutD l lo hi).length≤l.length:=by
 unfold cutD
 exact ⟨fun c hc=>List.mem_of_mem_drop (List.mem_of_mem_take hc),by rw [List.length_take,List.length_drop]; omega⟩
theorem aaS (x:List Nat) (lo hi:Option Int):cutS ⟨x.toArray⟩ lo hi=⟨(cutD x lo hi).toArray⟩:=by
 unfold cutS cutD; rw [str_len,HW]
theorem Vk {α:Type} {l:List α} {lo hi:Option Int} (h:HT.sIx l.length 0 lo=0/\HT.sIx l.length l.length hi=l.length):cutD l lo hi=l:=by
 unfold cutD; rw [h.1,h.2]; simp
theorem aaT {x:V} {d d':D} {lo hi:Option Int} {Q:VK} (e:Ex G H) (t:Top X.kw G H x d) (h:Wx d lo hi=some d') (q:∀ z G' H',aU G H G' H'->Rep X.kw G' z d'->Q z H') :
  (rSlL X.kw x lo hi H Q\/rSlA X.kw x lo hi H Q)\/rSlS x lo hi H Q:=by
 cases d with
 | lst l=>
  cases h
  obtain ⟨p,xs,rfl,a,b⟩:=t.K9 e
  exact .inl (.inl ⟨p,xs,rfl,a,fun p' hp=>q _ _ _ (aU.new e hp) (.lst upd_same ((Jk b lo hi).mono (Ex.new (e.free hp))))⟩)
 | fz l=>
  cases h
  obtain ⟨p,xs,rfl,a,b⟩:∃ p xs,x = .ref p/\SqL X.kw G p xs/\au X.kw G xs l:=by
   cases t with | im r=>cases r with | fz a b=>exact ⟨_,_,rfl,a,b⟩
  exact .inl (.inl ⟨p,xs,rfl,e.l a,fun p' hp=>q _ _ _ (aU.new e hp) (.lst upd_same ((Jk b lo hi).mono (Ex.new (e.free hp))))⟩)
 | tup l=>
  cases h
  obtain ⟨p,xs,rfl,a,b⟩:=t.Jg
  refine .inl (.inr ⟨p,xs,rfl,e.t a,fun hw=>?_,fun hw p' hp=>q _ _ _ (aU.new e hp) (.tup (SqT.of upd_same) ((Jk b lo hi).mono (Ex.new (e.free hp))))⟩)
  refine q _ G H (aU.refl e) ?_
  rw [b.length] at hw
  rw [Vk hw]
  exact .tup a b
 | str x=>
  cases h
  obtain ⟨rfl,ok⟩:=t.vStr
  refine .inr ⟨_,rfl,by rw [str_len]; exact HS ok,q _ G H (aU.refl e) ?_⟩
  rw [aaS]
  exact .str _ (aaR ok (Ow x lo hi).1 (Ow x lo hi).2)
 | _=>cases h
def Ui (X:Cx) (W:WX) (e:Option Expr) (L:Option AE):Prop:=(e=none/\L=none)\/∃ e' A,e=some e'/\L=some A/\DE X W e' A
theorem abM:Ui X W none none:=.inl ⟨rfl,rfl⟩
theorem Yn (h:DE X W e A):Ui X W (some e) (some A):=.inr ⟨e,A,rfl,rfl,h⟩
theorem Ui.go {e:Option Expr} {L:Option AE} {k:Option Int->List SD->Out} (h:Ui X W e L) (I:Inv X pins σ H s) (F:Fm X.kw pin G own σ H ss) (w:bA X.kw X.mg W pin G own σ H (vL L k ss)) :
  wpAny (model X.prog X.w) X.A (evalPart e X.env) (fun u s'=>∃ o ss' H' G' own',vL L k ss=k o ss'/\Inv X pins σ H' s'/\IsPart u o/\Step own.flatten G H own'.flatten G' H'/\Fm X.kw pin G' own' σ H' ss') X.xe s:=by
 rcases h with ⟨rfl,rfl⟩ | ⟨e',A,rfl,rfl,h⟩
 ·refine thn ((po_none (X:=X)).run pins s σ H (fun o H'=>o=none/\H'=H) I ⟨rfl,rfl⟩) fun u s1 ⟨o,H1,I1,p,e1,e2⟩=>?_
  subst e1; subst e2
  exact ⟨none,ss,H1,G,own,rfl,I1,p,Step.refl _ _ _,F⟩
 ·have w1:bA X.kw X.mg W pin G own σ H (A ss):=w.bind1
  refine thn ((po_some h).run pins s σ H (fun o H'=>∃ ss' G' own',vL (some A) k ss=k o ss'/\Step own.flatten G H own'.flatten G' H'/\Fm X.kw pin G' own' σ H' ss') I ?_) fun u s1 ⟨o,H1,I1,p,ss',G',own',e1,st,F'⟩=>⟨o,ss',H1,G',own',e1,I1,p,st,F'⟩
  refine ⟨pin,G,own,ss,F,w1,fun r ss' v G' own' H' e1 st F' kk=>?_⟩
  have w2:=w.JF e1
  cases q:r.get ss' with
  | none=>rw [q] at w2; exact absurd w2 id
  | some d=>
   rw [q] at w2
   cases d <;> try exact absurd w2 id
   rename_i i
   obtain rfl:=(F'.top kk q).vInt
   refine ⟨i,rfl,ss',G',own',?_,st,F'⟩
   show (A ss).bind _=_
   rw [e1]
   show (match r.get ss' with | some (.int i)=>k (some i) ss' | _ => .bad)=_
   rw [q]
theorem Yo {lo hi:Option Expr} {L U:Option AE} {p2:Pos} (ha:DE X W a A) (hl:Ui X W lo L) (hu:Ui X W hi U):DE X W (.Subscript a (.Slice lo hi none p2) pos) (Mw A L U):=
 DE.mk fun pins s σ H pin G own ss I F w=>by
  refine Subscript_ (thn (ha.go I F w.bind1) fun u1 s1 ⟨r1,ss1,x,H1,G1,own1,e1,I1,rx,st1,F1,k1⟩=>?_)
  have w1:=(w.JF e1).step st1
  refine wpAny_Slice (thn (hl.go I1 F1 w1) fun vl s2 ⟨l,ss2,H2,G2,cV,e2,I2,pl,st2,F2⟩=>?_)
  rw [e2] at w1
  have w2:=w1.step st2
  refine thn (hu.go I2 F2 w2) fun vu s3 ⟨h,Zz,H3,G3,Jl,e3,I3,pu,st3,F3⟩=>?_
  rw [e3] at w2
  have w3:=w2.step st3
  obtain ⟨d',q⟩:=vf w3
  obtain ⟨d,q1,q2⟩:∃ d,r1.get Zz=some d/\Wx d l h=some d':=by
   cases z:r1.get Zz with
   | none=>rw [z] at q; cases q
   | some d=>rw [z] at q; exact ⟨d,rfl,q⟩
  have eq:Mw A L U ss = .val (.im d') Zz:=by
   unfold Mw; rw [e1]; refine Eq.trans e2 (Eq.trans e3 ?_); rw [q]; rfl
  rw [evalPart_none]
  refine wpAny_pure ?_
  have I4:Inv X pins σ H3 { s3 with heap:=s3.heap.push { cls:=.type "slice",data:=.fields #[vl,vu, .none] } }:=I3.kept (t':=s3.toks) fun b ob q=>Heap.get?_push_of_some _ q
  have k3:=(k1.mono st2.g).mono st3.g
  have hr:SlR X (fun x lo hi H Q=>(rSlL X.kw x lo hi H Q\/rSlA X.kw x lo hi H Q)\/rSlS x lo hi H Q):=(sl_list.or sl_tupA).or sl_str
  obtain ⟨T,id,hT,ht,hg⟩:=hr pins { s3 with heap:=s3.heap.push { cls:=.type "slice",data:=.fields #[vl,vu, .none] } } σ H3 x u1 vl vu l h s3.heap.objs.size
   (fun z H'=>∃ G',aU G3 H3 G' H'/\Rep X.kw G' z d') I4 rx (Heap.IsSliceOf.new ..) pl pu (aaT F3.ex (F3.top k3 q1) q2 fun z G' H' al rr=>⟨G',al,rr⟩)
  show wpAny (model X.prog X.w) X.A (subscriptTail a (.Slice lo hi none p2) u1 (.ref s3.heap.objs.size)) _ X.xe { s3 with heap:=s3.heap.push { cls:=.type "slice",data:=.fields #[vl,vu, .none] } }
  refine tail_any (ops:=[.ref s3.heap.objs.size,u1]) ht hT (thn hg fun u' s' ⟨z,H',I',rz,G',al,rr⟩=>?_) (by with_unfolding_all rfl)
  exact ⟨.im d',Zz,z,H',G',Jl,eq,I',rz,((st1.trans st2).trans st3).trans (al.step Jl.flatten),F3.alloc al,rr⟩
inductive xH where
 | bad | val (rs:List Rv) (ss:List SD) | exc (c:Str) (fs:List (Str×D)) (ss:List SD)
def cM:List AE->List SD->xH
 | [],ss => .val [] ss
 | A :: As,ss=>match A ss with
  | .bad => .bad
  | .exc c fs s => .exc c fs s
  | .val r s=>match cM As s with
   | .bad => .bad
   | .exc c fs s' => .exc c fs s'
   | .val rs s' => .val (r :: rs) s'
def xH.bind (o:xH) (k:List Rv->List SD->Out):Out:=match o with
 | .bad => .bad
 | .val rs ss=>k rs ss
 | .exc c fs ss => .exc c fs ss
def xH.out:xH->Out
 | .bad => .bad
 | .val _ ss => .val (.im .non) ss
 | .exc c fs ss => .exc c fs ss
inductive dM (K:Kw) (G:Hp) (σ:L2.St):List Rv->List V->Prop
 | nil:dM K G σ [] []
 | cons {r:Rv} {rs:List Rv} {v:V} {vs:List V}:xG K G σ r v->dM K G σ rs vs->dM K G σ (r :: rs) (v :: vs)
theorem dM.mono {K:Kw} {G':Hp} (e:Ex G G'):∀ {rs:List Rv} {vs:List V},dM K G σ rs vs->dM K G' σ rs vs
 | _,_, .nil => .nil
 | _,_, .cons a b => .cons (a.mono e) (dM.mono e b)
def tDA (K:Kw) (mg:Str->Option Value) (W:WX) (As:List AE):TA:=fun σ H Q=>∃ pin G own ss,Fm K pin G own σ H ss/\bA K mg W pin G own σ H (cM As ss).out /\
 ∀ rs ss' vs G' own' H',cM As ss = .val rs ss'->Step own.flatten G H own'.flatten G' H'->Fm K pin G' own' σ H' ss'->dM K G' σ rs vs->Q vs H'
abbrev DA (X:Cx) (W:WX) (es:List Expr) (As:List AE):Prop:=PA X es (tDA X.kw X.mg W As)
theorem aP:DA X W [] []:=by
 refine ⟨fun pos pins s σ H Q I h=>?_⟩
 obtain ⟨pin,G,own,ss,F,w,k⟩:=h
 exact Calls.spliced_nil ⟨[],H,I, .nil,k [] ss [] G own H rfl (Step.refl _ _ _) F .nil⟩
theorem ao {es:List Expr} {As:List AE} (ha:DE X W e A) (hr:DA X W es As) (hs:starEach (e :: es) X.env=(false,eval e X.env) :: starEach es X.env:=by rfl):DA X W (e :: es) (A :: As):=by
 refine ⟨fun pos pins s σ H Q I h=>?_⟩
 obtain ⟨pin,G,own,ss,F,w,k⟩:=h
 rw [hs]
 show wpAny _ _ (spliced ((false,eval e X.env) :: backTo pos (starEach es X.env))) _ _ s
 have w0:bA X.kw X.mg W pin G own σ H (A ss):=by
  unfold cM at w
  cases q:A ss with
  | bad=>rw [q] at w; exact w
  | val r s=>trivial
  | exc c fs s=>rw [q] at w; exact w
 refine Calls.spliced_cons (thn (ha.go I F w0) fun u s1 ⟨r1,ss1,x,H1,G1,own1,e1,I1,rx,st1,F1,k1⟩=>?_)
 have w1:bA X.kw X.mg W pin G own σ H (cM As ss1).out:=by
  unfold cM at w
  rw [e1] at w
  cases q:cM As ss1 with
  | bad=>simp only [q] at w; exact w
  | val r s=>trivial
  | exc c fs s=>simp only [q] at w; exact w
 refine thn (hr.run pos pins s1 σ H1 (fun xs H2=>∃ rs ss2 G2 cV,cM As ss1 = .val rs ss2/\Step own1.flatten G1 H1 cV.flatten G2 H2/\Fm X.kw pin G2 cV σ H2 ss2/\dM X.kw G2 σ rs xs) I1
  ⟨pin,G1,own1,ss1,F1,w1.step st1,fun rs ss2 vs G2 cV H2 e2 st2 F2 k2=>⟨rs,ss2,G2,cV,e2,st2,F2,k2⟩⟩) fun us s2 ⟨xs,H2,I2,r2,rs,ss2,G2,cV,e2,st2,F2,k2⟩=>?_
 refine ⟨x :: xs,H2,I2, .cons rx r2,k (r1 :: rs) ss2 (x :: xs) G2 cV H2 ?_ (st1.trans st2) F2 (.cons (k1.mono st2.g) k2)⟩
 unfold cM
 rw [e1]
 simp only [e2]
def Rv.Iw:Rv->Option D
 | .im d=>some d
 | .sl _=>none
def vg:List Rv->Option (List D)
 | []=>some []
 | r :: rs=>match r.Iw,vg rs with
  | some d,some ds=>some (d :: ds)
  | _,_=>none
theorem FJ {K:Kw}:∀ {rs:List Rv} {ds:List D} {vs:List V},dM K G σ rs vs->vg rs=some ds->au K G vs ds
 | _,_,_, .nil,h=>by cases h; exact .nil
 | _,_,_, .cons (r:=r) (rs:=rs) a b,h=>by
  unfold vg at h
  cases r with
  | sl i=>cases h
  | im d=>
   simp only [Rv.Iw] at h
   cases q:vg rs with
   | none=>rw [q] at h; cases h
   | some ds=>rw [q] at h; cases h; exact .cons a (FJ b q)
def vM (mk:List D->D) (As:List AE):AE:=fun ss=>(cM As ss).bind fun rs s=>Out.ofD ((vg rs).bind fun ds=>if ds.length≤sizeLine then some (mk ds) else none) s
def Lg:List AE->AE:=vM .tup
def rF:List AE->AE:=vM .lst
theorem bA.args {K:Kw} {mg:Str->Option Value} {o:xH} {k:List Rv->List SD->Out} (w:bA K mg W pin G own σ H (o.bind k)):bA K mg W pin G own σ H o.out:=by
 cases o with
 | bad=>exact w
 | val rs ss=>trivial
 | exc c fs ss=>exact w
theorem Mx {K:Kw} {mg:Str->Option Value} {mk:List D->D} {As:List AE} {rs:List Rv} (w:bA K mg W pin G own σ H (vM mk As ss)) (e:cM As ss = .val rs ss'):∃ ds,vg rs=some ds/\ds.length≤sizeLine/\vM mk As ss = .val (.im (mk ds)) ss':=by
 have eq:vM mk As ss=Out.ofD ((vg rs).bind fun ds=>if ds.length≤sizeLine then some (mk ds) else none) ss':=by unfold vM; rw [e]; rfl
 rw [eq] at w ⊢
 cases q:vg rs with
 | none=>rw [q] at w; exact absurd w id
 | some ds=>
  rw [q] at w
  by_cases c:ds.length≤sizeLine
  ·exact ⟨ds,rfl,c,by show Out.ofD (if ds.length≤sizeLine then some (mk ds) else none) ss'=_; rw [if_pos c]; rfl⟩
  ·have w':bA K mg W pin G own σ H (Out.ofD (if ds.length≤sizeLine then some (mk ds) else none) ss'):=w
   rw [if_neg c] at w'; exact absurd w' id
theorem Ox {es:List Expr} {As:List AE} {x1:Nat} (h:DA X W es As):DE X W (.Tuple es x1 pos) (Lg As):=
 DE.of (pe_tup h) fun σ H pin G own ss Q F w k=>by
  refine ⟨pin,G,own,ss,F,w.args,fun rs ss' vs G' own' H' e st F' kk=>?_⟩
  obtain ⟨ds,q1,q2,q3⟩:=Mx w e
  have rr:=FJ kk q1
  refine ⟨by rw [rr.length]; exact q2,fun p hp=>?_⟩
  have al:=aU.new (o:=.tup vs) F'.ex hp
  exact k (.im (.tup ds)) ss' _ _ own' _ q3 (st.trans (al.step own'.flatten)) (F'.alloc al) (.tup (SqT.of upd_same) (rr.mono al.g))
def tDF (K:Kw) (mg:Str->Option Value) (W:WX) (A:AE):TE:=fun σ H Q=>∃ pin G own ss,Fm K pin G own σ H ss/\bA K mg W pin G own σ H (A ss) /\
 ∀ r ss' p xs l G' own' H',A ss = .val r ss'->r = .im (.lst l)->Step own.flatten G H own'.flatten G' H'->Fm K pin G' own' σ H' ss'->H' p=some (.lst xs)->G' p=none->H p=none->p ∉ own'.flatten->au K G' xs l->Q (.ref p) H'
abbrev DF (X:Cx) (W:WX) (e:Expr) (A:AE):Prop:=PE X e (tDF X.kw X.mg W A)
theorem Vl {K:Kw} {p:Addr} {xs:List V} {l:List D} (F:Fm K pin G own σ H ss) (hp:H p=some (.lst xs)) (g:G p=none) (ho:p ∉ own.flatten) (r:au K G xs l) :
  Fm K pin (upd G p (.lst xs)) own σ H ss/\Rep K (upd G p (.lst xs)) (.ref p) (.lst l)/\Ex G (upd G p (.lst xs)):=by
 have e:Ex G (upd G p (.lst xs)):=Ex.new g
 refine ⟨⟨fun a o q=>?_,F.sl.mono e fun _ _ _ h=>h,F.ap,fun a ha=>?_,F.io⟩, .lst upd_same (r.mono e),e⟩
 ·by_cases c:a=p
  ·subst c; rw [upd_same] at q; cases q; exact hp
  ·rw [upd_ne c] at q; exact F.ex a o q
 ·have c:a ≠ p:=fun z=>ho (z ▸ ha)
  rw [upd_ne c]; exact F.fr a ha
theorem DF.de (h:DF X W e A) (hl:∀ ss r ss',A ss = .val r ss'->∃ l,r = .im (.lst l)):DE X W e A:=
 ⟨fun pins s σ H Q I h'=>by
  obtain ⟨pin,G,own,ss,F,w,k⟩:=h'
  refine h.run pins s σ H Q I ⟨pin,G,own,ss,F,w,fun r ss' p xs l G' own' H' e el st F' hp g hn ho rr=>?_⟩
  subst el
  obtain ⟨F2,r2,e2⟩:=Vl F' hp g ho rr
  refine k (.im (.lst l)) ss' (.ref p) _ own' H' e ?_ F2 r2
  refine ⟨st.g.trans e2,fun a o q=>?_,st.h,st.w,st.t⟩
  by_cases c:a=p
  ·exact .inr (.inl (c ▸ hn))
  ·rw [upd_ne c] at q; exact st.n a o q⟩
theorem Oz {es:List Expr} {As:List AE} (h:DA X W es As):DF X W (.List es pos) (rF As):=
 ⟨fun pins s σ H Q I h'=>by
  obtain ⟨pin,G,own,ss,F,w,k⟩:=h'
  refine (pe_lst h).run pins s σ H Q I ⟨pin,G,own,ss,F,w.args,fun rs ss' vs G' own' H' e st F' kk=>?_⟩
  obtain ⟨ds,q1,q2,q3⟩:=Mx w e
  have rr:=FJ kk q1
  refine ⟨by rw [rr.length]; exact q2,fun p hp=>?_⟩
  have al:=aU.own (o:=.lst vs) F'.ex hp
  refine k (.im (.lst ds)) ss' p vs ds G' own' _ q3 rfl (st.trans (al.step own'.flatten)) (F'.alloc al) upd_same ?_ (st.t p hp) (fun z=>?_) rr
  ·cases q:G' p with
   | none=>rfl
   | some o=>have:=F'.ex p o q; rw [hp] at this; cases this
  ·obtain ⟨o,q⟩:=F'.sl.there p z
   rw [hp] at q; cases q⟩
theorem aaU {mk:List D->D} {As:List AE} {r:Rv} (h:vM mk As ss = .val r ss'):∃ l,r = .im (mk l):=by
 unfold vM at h
 cases q:cM As ss with
 | bad=>rw [q] at h; cases h
 | exc c fs s=>rw [q] at h; cases h
 | val rs s=>
  rw [q] at h
  have h':Out.ofD ((vg rs).bind fun ds=>if ds.length≤sizeLine then some (mk ds) else none) s = .val r ss':=h
  cases q2:((vg rs).bind fun ds=>if ds.length≤sizeLine then some (mk ds) else none) with
  | none=>rw [q2] at h'; cases h'
  | some d=>
   rw [q2] at h'
   cases h'
   cases q3:vg rs with
   | none=>rw [q3] at q2; cases q2
   | some ds=>
    rw [q3] at q2
    have q4:(if ds.length≤sizeLine then some (mk ds) else none)=some d:=q2
    split at q4
    ·cases q4; exact ⟨ds,rfl⟩
    ·cases q4
theorem wD {es:List Expr} {As:List AE} (h:DA X W es As):DE X W (.List es pos) (rF As):=(Oz h).de fun ss r ss' e=>aaU e
end
end DL
namespace DL
open PySem PySem.Spec PyProof.Rows L2
def gets:List Rv->List SD->Option (List D)
 | [],_=>some []
 | r :: rs,ss=>match r.get ss,gets rs ss with
  | some d,some ds=>some (d :: ds)
  | _,_=>none
inductive Av (K:Kw) (G H:Hp):List V->List D->Prop
 | nil:Av K G H [] []
 | cons {v:V} {vs:List V} {d:D} {ds:List D}:Top K G H v d->Av K G H vs ds->Av K G H (v :: vs) (d :: ds)
theorem Fm.tops {K:Kw} {pin:L2.St} {G H:Hp} {own:List (List Addr)} {σ:L2.St} {ss:List SD} (F:Fm K pin G own σ H ss):∀ {rs:List Rv} {vs:List V} {ds:List D},dM K G σ rs vs->gets rs ss=some ds->Av K G H vs ds
 | _,_,_, .nil,h=>by cases h; exact .nil
 | _,_,_, .cons (r:=r) (rs:=rs) a b,h=>by
  unfold gets at h
  cases q1:r.get ss with
  | none=>rw [q1] at h; cases h
  | some d=>
   cases q2:gets rs ss with
   | none=>rw [q1,q2] at h; cases h
   | some ds=>rw [q1,q2] at h; cases h; exact .cons (F.top a q1) (F.tops b q2)
section
variable {X:Cx} {W:WX} {e a b c:Expr} {A B C:AE} {pins:List (Addr×Obj)} {s:Shared} {σ:L2.St} {G H:Hp} {pin:L2.St} {own:List (List Addr)} {ss ss':List SD} {pos:Pos}
theorem Av.one {K:Kw} {xs:List V} {d:D} (t:Av K G H xs [d]):∃ x,xs=[x]/\Top K G H x d:=by
 cases t with | cons a b=>cases b; exact ⟨_,rfl,a⟩
abbrev FA:=List D->Option D
def CallD (X:Cx) (f:Value) (g:FA):Prop:=∀ (pins:List (Addr×Obj)) (s:Shared) (σ:L2.St) (G H:Hp) (xs:List V) (us:List Value) (ds:List D) (d:D),Inv X pins σ H s->Ex G H->Vals xs us->Av X.kw G H xs ds->g ds=some d ->
 wpAny (model X.prog X.w) X.A (call f us) (fun u' s'=>∃ z G' H',Inv X pins σ H' s'/\RelV z u'/\aU G H G' H'/\Rep X.kw G' z d) X.xe s
theorem CallD.of {f:Value} {g:FA} {r:List V->Hp->VK->Prop} (h:CallR X f r) (k:∀ (G H:Hp) (xs:List V) (ds:List D) (d:D) (Q:VK),Ex G H->Av X.kw G H xs ds->g ds=some d->(∀ z G' H',aU G H G' H'->Rep X.kw G' z d->Q z H')->r xs H Q):CallD X f g:=
 fun pins s σ G H xs us ds d I e ru t q=>by
  refine thn (h pins s σ H xs us (fun z H'=>∃ G',aU G H G' H'/\Rep X.kw G' z d) I ru (k G H xs ds d _ e t q fun z G' H' a r=>⟨G',a,r⟩)) fun u' s' ⟨z,H',I',rz,G',a,rr⟩=>?_
  exact ⟨z,G',H',I',rz,a,rr⟩
def Yp (f g:FA):FA:=fun ds=>match f ds with
 | some d=>some d
 | none=>g ds
theorem CallD.or {f:Value} {g g':FA} (h:CallD X f g) (h':CallD X f g'):CallD X f (Yp g g'):=fun pins s σ G H xs us ds d I e ru t q=>by
 unfold Yp at q
 cases z:g ds with
 | some d'=>rw [z] at q; cases q; exact h pins s σ G H xs us ds _ I e ru t z
 | none=>rw [z] at q; exact h' pins s σ G H xs us ds d I e ru t q
def aFn (g:FA) (As:List AE):AE:=fun ss=>(cM As ss).bind fun rs s=>Out.ofD ((gets rs s).bind g) s
theorem Yq {K:Kw} {mg:Str->Option Value} {g:FA} {As:List AE} {rs:List Rv} (w:bA K mg W pin G own σ H (aFn g As ss)) (e:cM As ss = .val rs ss'):∃ ds d,gets rs ss'=some ds/\g ds=some d/\aFn g As ss = .val (.im d) ss':=by
 have eq:aFn g As ss=Out.ofD ((gets rs ss').bind g) ss':=by unfold aFn; rw [e]; rfl
 rw [eq] at w ⊢
 obtain ⟨d,q⟩:=vf w
 cases z:gets rs ss' with
 | none=>rw [z] at q; cases q
 | some ds=>rw [z] at q; exact ⟨ds,d,rfl,q,by show Out.ofD (g ds) ss'=_; rw [show g ds=some d from q]; rfl⟩
theorem Wy {f:Value} {g:FA} {As:List AE} (hc:CallD X f g) {us:List Value} {s1:Shared} {vs:List V} {H1:Hp} {rs:List Rv} {ss1:List SD} {G1:Hp} {own1:List (List Addr)} (w:bA X.kw X.mg W pin G own σ H (aFn g As ss))
  (I1:Inv X pins σ H1 s1) (r:Vals vs us) (e:cM As ss = .val rs ss1) (st:Step own.flatten G H own1.flatten G1 H1) (F1:Fm X.kw pin G1 own1 σ H1 ss1) (k:dM X.kw G1 σ rs vs) :
  wpAny (model X.prog X.w) X.A (call f us) (EPost X pins σ pin G own H (aFn g As ss)) X.xe s1:=by
 obtain ⟨ds,d,q1,q2,q3⟩:=Yq w e
 refine thn (hc pins s1 σ G1 H1 vs us ds d I1 F1.ex r (F1.tops k q1) q2) fun u' s' ⟨z,G',H',I',rz,al,rr⟩=>?_
 exact ⟨.im d,ss1,z,H',G',own1,q3,I',rz,st.trans (al.step own1.flatten),F1.alloc al,rr⟩
theorem DA.go {es:List Expr} {As:List AE} (h:DA X W es As) (pos:Pos) (I:Inv X pins σ H s) (F:Fm X.kw pin G own σ H ss) (w:bA X.kw X.mg W pin G own σ H (cM As ss).out) :
  wpAny (model X.prog X.w) X.A (spliced (backTo pos (starEach es X.env))) (fun us s'=>∃ vs H1 rs ss1 G1 own1,Inv X pins σ H1 s'/\Vals vs us/\cM As ss = .val rs ss1/\Step own.flatten G H own1.flatten G1 H1/\Fm X.kw pin G1 own1 σ H1 ss1/\dM X.kw G1 σ rs vs) X.xe s:=by
 refine thn (h.run pos pins s σ H (fun vs H1=>∃ rs ss1 G1 own1,cM As ss = .val rs ss1/\Step own.flatten G H own1.flatten G1 H1/\Fm X.kw pin G1 own1 σ H1 ss1/\dM X.kw G1 σ rs vs) I ⟨pin,G,own,ss,F,w,fun rs ss1 vs G1 own1 H1 e st F1 k=>⟨rs,ss1,G1,own1,e,st,F1,k⟩⟩) fun us s1 ⟨vs,H1,I1,r,rs,ss1,G1,own1,e,st,F1,k⟩=>?_
 exact ⟨vs,H1,rs,ss1,G1,own1,I1,r,e,st,F1,k⟩
theorem vh {x:Str} {p:Pos} {es:List Expr} {id:String} {g:FA} {As:List AE} (hc:CallD X (.builtin id) g) (hg:Gl X x) (hm:X.mg x=none) (hv:bootBuiltins x=some (.builtin id)) (ha:DA X W (e :: es) As) (hn:x ≠ "__name__":=by decide) (hdb:(x == ("__debug__" : Str))=false:=by decide)
  (he:starEach (e :: es) X.env=(false,eval e X.env) :: starEach es X.env:=by rfl) (hpl:(backTo pos (starEach es X.env)).any (·.1)=false:=by rfl):DE X W (.Call (.Name x p) (e :: es) [] pos) (aFn g As):=
 DE.mk fun pins s σ H pin G own ss I F w=>by
  refine wpAny_Call_Name_kw (ld_blt I hg hm hv ?_ hn hdb)
  exact PyProof.Rows.callWith_builtin1 (thn (ha.go pos I F w.args) fun us s1 ⟨vs,H1,rs,ss1,G1,own1,I1,r,e,st,F1,k⟩=>Wy hc w I1 r e st F1 k) he hpl
theorem lg {x:Str} {p:Pos} {es:List Expr} {T:String} {g:FA} {As:List AE} (hc:CallD X (.type T) g) (hg:Gl X x) (hm:X.mg x=none) (hv:bootBuiltins x=some (.type T)) (ha:DA X W (e :: es) As) (hn:x ≠ "__name__":=by decide) (hdb:(x == ("__debug__" : Str))=false:=by decide)
  (he:starEach (e :: es) X.env=(false,eval e X.env) :: starEach es X.env:=by rfl) (hpl:(backTo pos (starEach es X.env)).any (·.1)=false:=by rfl):DE X W (.Call (.Name x p) (e :: es) [] pos) (aFn g As):=
 DE.mk fun pins s σ H pin G own ss I F w=>by
  refine wpAny_Call_Name_kw (ld_blt I hg hm hv ?_ hn hdb)
  exact PyProof.Rows.callWith_type1 (thn (ha.go pos I F w.args) fun us s1 ⟨vs,H1,rs,ss1,G1,own1,I1,r,e,st,F1,k⟩=>Wy hc w I1 r e st F1 k) he hpl
def Yr:FA
 | [.str x]=>some (.int x.length)
 | [.lst l]=>some (.int l.length)
 | [.tup l]=>some (.int l.length)
 | _=>none
theorem abO:CallD X (.builtin "len") Yr:=CallD.of call_len fun G H xs ds d Q e t h q=>by
 unfold Yr at h
 split at h
 ·cases h
  obtain ⟨x,rfl,t1⟩:=t.one
  obtain ⟨rfl,ok⟩:=t1.vStr
  exact ⟨_,_,rfl,⟨by rw [str_len]; exact HS ok,rfl⟩,q _ G H (aU.refl e) (by rw [str_len]; exact .int _)⟩
 ·cases h
  obtain ⟨x,rfl,t1⟩:=t.one
  obtain ⟨p,xs,rfl,a,b⟩:=t1.K9 e
  exact ⟨_,_,rfl, .inl ⟨xs,a,rfl⟩,q _ G H (aU.refl e) (by rw [b.length]; exact .int _)⟩
 ·cases h
  obtain ⟨x,rfl,t1⟩:=t.one
  obtain ⟨p,xs,rfl,a,b⟩:=t1.Jg
  exact ⟨_,_,rfl, .inr ⟨xs,e.t a,rfl⟩,q _ G H (aU.refl e) (by rw [b.length]; exact .int _)⟩
 ·cases h
def oE:FA
 | [.int i]=>some (.int i)
 | _=>none
theorem wF:CallD X (.type "int") oE:=CallD.of call_int1 fun G H xs ds d Q e t h q=>by
 unfold oE at h
 split at h <;> cases h
 obtain ⟨x,rfl,t1⟩:=t.one
 obtain rfl:=t1.vInt
 exact .inl ⟨_,rfl,q _ G H (aU.refl e) (.int _)⟩
inductive Ty where
 | int | bool | str | list | tuple
 deriving DecidableEq
def Ty.name:Ty->String
 | .int=>"int" | .bool=>"bool" | .str=>"str" | .list=>"list" | .tuple=>"tuple"
def D.zL:Ty->D->Option Bool
 | _, .iH _ _=>none
 | _, .fz _=>none
 | _, .ob _ _ _=>none
 | .int, .int _=>some true
 | .int, .bl _=>some true
 | .bool, .bl _=>some true
 | .str, .str _=>some true
 | .list, .lst _=>some true
 | .tuple, .tup _=>some true
 | _,_=>some false
theorem TyX.ofL {K:Kw} {p:Addr} {xs:List V} (h:SqL K H p xs):TyX K H (.ref p) (.type "list"):=by
 rcases h with (h | ⟨o,h⟩) | ⟨o,its,n,h,hc,_⟩
 ·exact .base (.lst h)
 ·exact .base (.frz h)
 ·exact .kList h hc
theorem TyX.ofT {K:Kw} {p:Addr} {xs:List V} (h:SqT K H p xs):TyX K H (.ref p) (.type "tuple"):=by
 rcases h with (h | ⟨o,h⟩) | ⟨o,its,n,h,hc,_⟩
 ·exact .base (.tup h)
 ·exact .fTuple h
 ·exact .kTuple h hc
def D.tyn:D->Option String
 | .non=>some "NoneType"
 | .bl _=>some "bool"
 | .int _=>some "int"
 | .str _=>some "str"
 | .tup _=>some "tuple"
 | .lst _=>some "list"
 | .iH _ _=>none
 | .fz _=>none
 | .ob _ _ _=>none
theorem Top.ty {K:Kw} {x:V} {d:D} {n:String} (e:Ex G H) (t:Top K G H x d) (h:d.tyn=some n):TyX K H x (.type n):=by
 cases d with
 | non=>obtain rfl:=t.abA; cases h; exact .base .non
 | bl b=>obtain rfl:=t.vBl; cases h; exact .base (.bl _)
 | int b=>obtain rfl:=t.vInt; cases h; exact .base (.int _)
 | str b=>obtain ⟨rfl,_⟩:=t.vStr; cases h; exact .base (.str _)
 | tup l=>obtain ⟨p,xs,rfl,a,b⟩:=t.Jg; cases h; exact TyX.ofT (e.t a)
 | lst l=>obtain ⟨p,xs,rfl,a,b⟩:=t.K9 e; cases h; exact TyX.ofL a
 | iH t l=>cases h
 | fz l=>cases h
 | ob c g l=>cases h
theorem aaV {K:Kw} {T:Ty} {d:D} {b:Bool} (h:D.zL T d=some b):∃ n,d.tyn=some n/\PySem.W.kitOne K (.type n) (.type T.name)=some b:=by
 cases d <;> cases T <;> simp [D.zL] at h <;> subst h <;> exact ⟨_,rfl,kit_ty (by decide +kernel)⟩
def oF (T:Ty) (A:AE):AE:=fun ss=>(A ss).bind fun r s=>Out.ofD ((r.get s).bind fun d=>(D.zL T d).map .bl) s
theorem Wz {K:Kw} {mg:Str->Option Value} {g:D->Option Bool} {r:Rv} (w:bA K mg W pin G own σ H ((A ss).bind fun r s=>Out.ofD ((r.get s).bind fun d=>(g d).map .bl) s)) (e:A ss = .val r ss') :
  ∃ d b,r.get ss'=some d/\g d=some b/\((A ss).bind fun r s=>Out.ofD ((r.get s).bind fun d=>(g d).map .bl) s) = .val (.im (.bl b)) ss':=by
 rw [e] at w ⊢
 have w':bA K mg W pin G own σ H (Out.ofD ((r.get ss').bind fun d=>(g d).map .bl) ss'):=w
 cases q1:r.get ss' with
 | none=>rw [q1] at w'; exact absurd w' id
 | some d=>
  rw [q1] at w'
  have w2:bA K mg W pin G own σ H (Out.ofD ((g d).map .bl) ss'):=w'
  cases q2:g d with
  | none=>rw [q2] at w2; exact absurd w2 id
  | some b=>exact ⟨d,b,rfl,q2,by show Out.ofD ((r.get ss').bind fun d=>(g d).map .bl) ss'=_; rw [q1]; show Out.ofD ((g d).map .bl) ss'=_; rw [q2]; rfl⟩
theorem qC {x:Str} {p:Pos} {T:Ty} {jF:Expr} (hx:x = "isinstance":=by rfl) (hg:Gl X x) (hm:X.mg x=none) (ha:DE X W a A) (ht:PE X jF (tC (.ty T.name)))
  (he:starEach (a :: [jF]) X.env=(false,eval a X.env) :: starEach [jF] X.env:=by rfl) (he2:starEach [jF] X.env=[(false,eval jF X.env)]:=by rfl) (hpl:(backTo pos (starEach [jF] X.env)).any (·.1)=false:=by rfl):DE X W (.Call (.Name x p) [a,jF] [] pos) (oF T A):=
 DE.mk fun pins s σ H pin G own ss I F w=>by
  subst hx
  refine wpAny_Call_Name_kw (ld_blt I hg hm (show bootBuiltins (Str.ofString "isinstance")=some (.builtin "isinstance") from by decide +kernel) ?_ (by decide) (by decide))
  refine PyProof.Rows.callWith_builtin1 (Q:=EPost X pins σ pin G own H (oF T A ss)) ?_ he hpl
  rw [he]
  show wpAny _ _ (spliced ((false,eval a X.env) :: backTo pos (starEach [jF] X.env))) _ _ s
  refine Calls.spliced_cons (thn (ha.go I F w.bind1) fun u s1 ⟨r1,ss1,v,H1,G1,own1,e1,I1,rx,st1,F1,k1⟩=>?_)
  obtain ⟨d,b,q1,q2,q3⟩:=Wz w e1
  rw [he2]
  show wpAny _ _ (spliced ((false,eval jF X.env) :: [])) _ _ s1
  refine Calls.spliced_cons (thn (ht.run pins s1 σ H1 (fun v' H'=>v' = .ty T.name/\H'=H1) I1 ⟨rfl,rfl⟩) fun u2 s2 ⟨v2,H2,I2,r2,z1,z2⟩=>?_)
  subst z1; subst z2
  refine Calls.spliced_nil ?_
  obtain ⟨n,n1,n2⟩:=aaV (K:=X.kw) q2
  refine thn (call_isi pins s2 σ H2 [v, .ty T.name] [u,u2] (fun z H'=>z = .bl b/\H'=H2) I2 (.cons rx (.cons r2 .nil)) ⟨v, .ty T.name,_,_,b,rfl, .ty _,(F1.top k1 q1).ty F1.ex n1,n2,rfl,rfl⟩) fun u3 s3 ⟨z,H3,I3,r3,z1,z2⟩=>?_
  subst z1; subst z2
  exact ⟨.im (.bl b),ss1, .bl b,H3,G1,own1,q3,I3,r3,st1,F1, .bl b⟩
def ac3 (T U:Ty) (A:AE):AE:=fun ss=>(A ss).bind fun r s=>Out.ofD ((r.get s).bind fun d=>(match D.zL T d,D.zL U d with | some x,some y=>some (x || y) | _,_=>none).map .bl) s
theorem nW {T:String} {x:Str} {pos:Pos} (hg:Gl X x) (hm:X.mg x=none) (hv:bootBuiltins x=some (.type T)) (hn:x ≠ "__name__":=by decide) (hd:(x == ("__debug__" : Str))=false:=by decide):PE X (.Name x pos) (tC (.ty T)):=pe_bltn hg hm hv rfl hn hd
end
end DL
namespace DL
open PySem PySem.Spec PyProof.Rows L2
inductive FP where
 | bad | ret (d:D) (ss:List SD) | exc (c:Str) (fs:List (Str×D)) (ss:List SD)
abbrev FnD:=List SD->FP
def N7 (K:Kw) (mg:Str->Option Value) (E:XK) (pin:L2.St) (G:Hp) (own:List (List Addr)) (σ:L2.St) (H:Hp) (o:FP):Prop:=match o with
 | .bad=>False
 | .ret _ _=>True
 | .exc c fs ss'=>∃ C,mg c=some (.ref C)/\∀ dd G' own' H',Step own.flatten G H own'.flatten G' H'->Fm K pin G' own' σ H' ss'->Om K G' H' fs dd->E (.ref C) dd H'
def pH (K:Kw) (mg:Str->Option Value) (F:FnD):Sp:=fun vs H Q E=>∃ G own ss,Fm K (vs.map some) G own (vs.map some) H ss/\N7 K mg E (vs.map some) G own (vs.map some) H (F ss) /\
 ∀ d ss' v G' own' H',F ss = .ret d ss'->Step own.flatten G H own'.flatten G' H'->Fm K (vs.map some) G' own' (vs.map some) H' ss'->Rep K G' v d->Q v H'
inductive cA where
 | bad | nx (ss:List SD) | rt (d:D) (ss:List SD) | bk (ss:List SD) | ct (ss:List SD) | exc (c:Str) (fs:List (Str×D)) (ss:List SD)
abbrev AS:=Nat->List SD->cA
def d8 (K:Kw) (mg:Str->Option Value) (W:WX) (pin:L2.St) (G:Hp) (own:List (List Addr)) (H:Hp) (o:cA):Prop:=match o with
 | .bad=>False
 | .exc c fs ss'=>∃ C,mg c=some (.ref C)/\∀ dd σ' G' own' H',Step own.flatten G H own'.flatten G' H'->Fm K pin G' own' σ' H' ss'->Om K G' H' fs dd->W (.ref C) dd σ' H'
 | _=>True
def mV (K:Kw) (pin:L2.St) (G:Hp) (own:List (List Addr)) (H:Hp) (D':Ends) (o:cA):Prop:=match o with
 | .bad=>False
 | .nx ss'=>∀ σ' G' own' H',Step own.flatten G H own'.flatten G' H'->Fm K pin G' own' σ' H' ss'->D'.nx σ' H'
 | .rt d ss'=>∀ v σ' G' own' H',Step own.flatten G H own'.flatten G' H'->Fm K pin G' own' σ' H' ss'->Rep K G' v d->D'.rt v H'
 | .bk ss'=>∀ σ' G' own' H',Step own.flatten G H own'.flatten G' H'->Fm K pin G' own' σ' H' ss'->D'.bk σ' H'
 | .ct ss'=>∀ σ' G' own' H',Step own.flatten G H own'.flatten G' H'->Fm K pin G' own' σ' H' ss'->D'.ct σ' H'
 | .exc _ _ _=>True
def WD (K:Kw) (mg:Str->Option Value) (W:WX) (S:AS):TS:=fun D' σ H=>∃ n pin G own ss,Fm K pin G own σ H ss/\d8 K mg W pin G own H (S n ss)/\mV K pin G own H D' (S n ss)
abbrev DS (X:Cx) (W:WX) (st:Stmt) (S:AS):Prop:=PS X st (WD X.kw X.mg W S)
abbrev yK (X:Cx) (W:WX) (st:List Stmt) (S:AS):Prop:=PSs X st (WD X.kw X.mg W S)
section
variable {K:Kw} {mg:Str->Option Value} {W:WX} {pin:L2.St} {G H G1 H1:Hp} {own own1:List (List Addr)} {σ:L2.St} {ss ss':List SD} {o:cA}
theorem d8.step (w:d8 K mg W pin G own H o) (st:Step own.flatten G H own1.flatten G1 H1):d8 K mg W pin G1 own1 H1 o:=by
 cases o with
 | exc c fs ss'=>
  obtain ⟨C,h1,h2⟩:=w
  exact ⟨C,h1,fun dd σ' G' own' H' s F x=>h2 dd σ' G' own' H' (st.trans s) F x⟩
 | bad=>exact w
 | _=>trivial
theorem mV.step {D':Ends} (w:mV K pin G own H D' o) (st:Step own.flatten G H own1.flatten G1 H1):mV K pin G1 own1 H1 D' o:=by
 cases o with
 | bad=>exact w
 | nx ss'=>exact fun σ' G' own' H' s F=>w σ' G' own' H' (st.trans s) F
 | rt d ss'=>exact fun v σ' G' own' H' s F r=>w v σ' G' own' H' (st.trans s) F r
 | bk ss'=>exact fun σ' G' own' H' s F=>w σ' G' own' H' (st.trans s) F
 | ct ss'=>exact fun σ' G' own' H' s F=>w σ' G' own' H' (st.trans s) F
 | exc c fs ss'=>trivial
end
def Vm (X:Cx) (pins:List (Addr×Obj)) (pin:L2.St) (G:Hp) (own:List (List Addr)) (H:Hp) (o:cA) (f:Flow) (s':Shared):Prop:=match f with
 | .next=>∃ ss' σ' H' G' own',o = .nx ss'/\Inv X pins σ' H' s'/\Step own.flatten G H own'.flatten G' H'/\Fm X.kw pin G' own' σ' H' ss'
 | .ret u=>∃ d ss' v σ' H' G' own',o = .rt d ss'/\Inv X pins σ' H' s'/\RelV v u/\Step own.flatten G H own'.flatten G' H'/\Fm X.kw pin G' own' σ' H' ss'/\Rep X.kw G' v d
 | .brk=>∃ ss' σ' H' G' own',o = .bk ss'/\Inv X pins σ' H' s'/\Step own.flatten G H own'.flatten G' H'/\Fm X.kw pin G' own' σ' H' ss'
 | .cont=>∃ ss' σ' H' G' own',o = .ct ss'/\Inv X pins σ' H' s'/\Step own.flatten G H own'.flatten G' H'/\Fm X.kw pin G' own' σ' H' ss'
section
variable {X:Cx} {W:WX} {st:Stmt} {sts rest:List Stmt} {S T:AS} {e a b c:Expr} {A B C:AE} {pins:List (Addr×Obj)} {s:Shared} {σ:L2.St} {G H G1 H1:Hp} {pin:L2.St} {own own1:List (List Addr)} {ss ss':List SD} {pos:Pos}
theorem Vm.step {o:cA} {f:Flow} {s':Shared} (h:Vm X pins pin G1 own1 H1 o f s') (st:Step own.flatten G H own1.flatten G1 H1):Vm X pins pin G own H o f s':=by
 cases f with
 | next=>obtain ⟨ss',σ',H',G',own',e,I,s,F⟩:=h; exact ⟨ss',σ',H',G',own',e,I,st.trans s,F⟩
 | brk=>obtain ⟨ss',σ',H',G',own',e,I,s,F⟩:=h; exact ⟨ss',σ',H',G',own',e,I,st.trans s,F⟩
 | cont=>obtain ⟨ss',σ',H',G',own',e,I,s,F⟩:=h; exact ⟨ss',σ',H',G',own',e,I,st.trans s,F⟩
 | ret u=>obtain ⟨d,ss',v,σ',H',G',own',e,I,r,s,F,k⟩:=h; exact ⟨d,ss',v,σ',H',G',own',e,I,r,st.trans s,F,k⟩
def OD (X:Cx) (pin:L2.St) (G:Hp) (own:List (List Addr)) (H:Hp) (o:cA):Ends where
 nx:=fun σ' H'=>∃ ss' G' own',o = .nx ss'/\Step own.flatten G H own'.flatten G' H'/\Fm X.kw pin G' own' σ' H' ss'
 rt:=fun v H'=>∃ d ss' σ' G' own',o = .rt d ss'/\Step own.flatten G H own'.flatten G' H'/\Fm X.kw pin G' own' σ' H' ss'/\Rep X.kw G' v d
 bk:=fun σ' H'=>∃ ss' G' own',o = .bk ss'/\Step own.flatten G H own'.flatten G' H'/\Fm X.kw pin G' own' σ' H' ss'
 ct:=fun σ' H'=>∃ ss' G' own',o = .ct ss'/\Step own.flatten G H own'.flatten G' H'/\Fm X.kw pin G' own' σ' H' ss'
theorem Uj {o:cA} (h:o ≠ .bad):mV X.kw pin G own H (OD X pin G own H o) o:=by
 cases o with
 | bad=>exact absurd rfl h
 | nx ss'=>exact fun σ' G' own' H' s F=>⟨ss',G',own',rfl,s,F⟩
 | rt d ss'=>exact fun v σ' G' own' H' s F r=>⟨d,ss',σ',G',own',rfl,s,F,r⟩
 | bk ss'=>exact fun σ' G' own' H' s F=>⟨ss',G',own',rfl,s,F⟩
 | ct ss'=>exact fun σ' G' own' H' s F=>⟨ss',G',own',rfl,s,F⟩
 | exc c fs ss'=>trivial
theorem d8.ne {o:cA} {mg:Str->Option Value} {K:Kw} (w:d8 K mg W pin G own H o):o ≠ .bad:=fun z=>by subst z; exact w
theorem yK.go {n:Nat} (h:yK X W sts S) (I:Inv X pins σ H s) (F:Fm X.kw pin G own σ H ss) (w:d8 X.kw X.mg W pin G own H (S n ss)) :
  wpAny (model X.prog X.w) X.A (execs sts X.env) (SP X pins (OD X pin G own H (S n ss))) X.xe s:=
 h.run pins s σ H _ I ⟨n,pin,G,own,ss,F,w,Uj w.ne⟩
theorem DS.go {n:Nat} (h:DS X W st S) (I:Inv X pins σ H s) (F:Fm X.kw pin G own σ H ss) (w:d8 X.kw X.mg W pin G own H (S n ss)) :
  wpAny (model X.prog X.w) X.A (exec st X.env) (SP X pins (OD X pin G own H (S n ss))) X.xe s:=
 h.run pins s σ H _ I ⟨n,pin,G,own,ss,F,w,Uj w.ne⟩
theorem DS.of {t:TS} (h:PS X st t) (k:∀ (n:Nat) (σ:L2.St) (H:Hp) (pin:L2.St) (G:Hp) (own:List (List Addr)) (ss:List SD) (D':Ends),Fm X.kw pin G own σ H ss->d8 X.kw X.mg W pin G own H (S n ss) ->
  mV X.kw pin G own H D' (S n ss)->t D' σ H):DS X W st S:=
 ⟨fun pins s σ H D' I ⟨n,pin,G,own,ss,F,w,q⟩=>h.run pins s σ H D' I (k n σ H pin G own ss D' F w q)⟩
theorem yK.of {t:TS} (h:PSs X sts t) (k:∀ (n:Nat) (σ:L2.St) (H:Hp) (pin:L2.St) (G:Hp) (own:List (List Addr)) (ss:List SD) (D':Ends),Fm X.kw pin G own σ H ss->d8 X.kw X.mg W pin G own H (S n ss) ->
  mV X.kw pin G own H D' (S n ss)->t D' σ H):yK X W sts S:=
 ⟨fun pins s σ H D' I ⟨n,pin,G,own,ss,F,w,q⟩=>h.run pins s σ H D' I (k n σ H pin G own ss D' F w q)⟩
def fU:AS:=fun _ ss => .nx ss
def cJ (S T:AS):AS:=fun n ss=>match S n ss with
 | .nx s1=>T n s1
 | o=>o
theorem fZ:yK X W [] fU:=yK.of pss_nil fun n σ H pin G own ss D' F w k=>k σ G own H (Step.refl _ _ _) F
theorem bB (h:DS X W st S):yK X W [st] S:=pss_one h
theorem bG (h1:DS X W st S) (h2:yK X W rest T):yK X W (st :: rest) (cJ S T):=
 yK.of (pss_cons h1 h2) fun n σ H pin G own ss D' F w k=>by
  unfold cJ at w k
  refine ⟨n,pin,G,own,ss,F,?_,?_⟩
  ·cases q:S n ss with
   | nx s1=>trivial
   | bad=>rw [q] at w; exact absurd w id
   | rt d s1=>trivial
   | bk s1=>trivial
   | ct s1=>trivial
   | exc c fs s1=>rw [q] at w; exact w
  ·cases q:S n ss with
   | nx s1=>
    simp only [q] at w k
    exact fun σ' G' own' H' st F'=>⟨n,pin,G',own',s1,F',w.step st,k.step st⟩
   | bad=>rw [q] at w; exact absurd w id
   | rt d s1=>simp only [q] at k; exact k
   | bk s1=>simp only [q] at k; exact k
   | ct s1=>simp only [q] at k; exact k
   | exc c fs s1=>trivial
def Ys:AS:=fun _ ss => .bk ss
theorem abP:DS X W (.Break pos) Ys:=DS.of ps_break fun n σ H pin G own ss D' F w k=>k σ G own H (Step.refl _ _ _) F
def Out.toS (o:Out) (k:Rv->List SD->cA):cA:=match o with
 | .bad => .bad
 | .val r ss=>k r ss
 | .exc c fs ss => .exc c fs ss
def Out.toB (o:Out) (k:Bool->List SD->cA):cA:=match o with
 | .bad => .bad
 | .val (.im (.bl b)) ss=>k b ss
 | .val _ _ => .bad
 | .exc c fs ss => .exc c fs ss
theorem d8.toS {K:Kw} {mg:Str->Option Value} {o:Out} {k:Rv->List SD->cA} (w:d8 K mg W pin G own H (o.toS k)):bA K mg W pin G own σ H o:=by
 cases o with
 | bad=>exact w
 | val r ss=>trivial
 | exc c fs ss'=>
  obtain ⟨C,h1,h2⟩:=w
  exact ⟨C,h1,fun dd G' own' H' s F x=>h2 dd σ G' own' H' s F x⟩
theorem d8.toB {K:Kw} {mg:Str->Option Value} {o:Out} {k:Bool->List SD->cA} (w:d8 K mg W pin G own H (o.toB k)):bA K mg W pin G own σ H o/\o.isB:=by
 cases o with
 | bad=>exact absurd w id
 | val r ss'=>
  cases r with
  | im d=>cases d <;> first | exact ⟨trivial,trivial⟩ | exact absurd w id
  | sl i=>exact absurd w id
 | exc c fs ss'=>
  obtain ⟨C,h1,h2⟩:=w
  exact ⟨⟨C,h1,fun dd G' own' H' s F x=>h2 dd σ G' own' H' s F x⟩,trivial⟩
def gH (A:AE):AS:=fun _ ss=>(A ss).toS fun r s=>match r with
 | .im d => .rt d s
 | .sl _ => .bad
theorem eX (h:DE X W e A):DS X W (.Return (some e) pos) (gH A):=
 DS.of (ps_ret h) fun n σ H pin G own ss D' F w k=>by
  refine ⟨pin,G,own,ss,F,w.toS,fun r ss' v G' own' H' e st F' kk=>?_⟩
  unfold gH at k
  rw [e] at k
  cases r with
  | im d=>exact k v σ G' own' H' st F' kk
  | sl i=>exact absurd k id
def jh (C:AE) (S T:AS):AS:=fun n ss=>(C ss).toB fun b s=>if b then S n s else T n s
theorem jG {sa sb:List Stmt} (hc:DT X W c C) (ha:yK X W sa S) (hb:yK X W sb T):DS X W (.If c sa sb pos) (jh C S T):=
 DS.of (ps_if hc ha hb) fun n σ H pin G own ss D' F w k=>by
  refine ⟨pin,G,own,ss,F,w.toB,fun b ss' G' own' H' e st F'=>?_⟩
  unfold jh at w k
  rw [e] at w k
  have w':d8 X.kw X.mg W pin G own H (if b then S n ss' else T n ss'):=w
  have k':mV X.kw pin G own H D' (if b then S n ss' else T n ss'):=k
  cases b with
  | true=>exact ⟨n,pin,G',own',ss',F',w'.step st,k'.step st⟩
  | false=>exact ⟨n,pin,G',own',ss',F',w'.step st,k'.step st⟩
def qX (i:Nat) (d:D) (ss:List SD):cA:=match ss[i]? with
 | some (.ow true _ _) => .bad
 | some _ => .nx (ss.set i (.im d))
 | none => .bad
theorem OJ {i:Nat} {d:D} {v:V} {K:Kw} (F:Fm K pin G own σ H ss) (r:Rep K G v d) (h:qX i d ss = .nx ss') :
  ss'=ss.set i (.im d)/\∃ own',Fm K pin G own' (σ.set i (some v)) H ss'/\Step own.flatten G H own'.flatten G H:=by
 unfold qX at h
 cases q:ss[i]? with
 | none=>rw [q] at h; cases h
 | some sd=>
  have hs:ss'=ss.set i (.im d)/\∀ s d,sd ≠ .ow true s d:=by
   rw [q] at h
   cases sd with
   | un=>cases h; exact ⟨rfl,fun _ _ z=>nomatch z⟩
   | im d'=>cases h; exact ⟨rfl,fun _ _ z=>nomatch z⟩
   | ow io s d'=>
    cases io with
    | true=>cases h
    | false=>cases h; exact ⟨rfl,fun _ _ z=>nomatch z⟩
  obtain ⟨hs,ni⟩:=hs
  subst hs
  obtain ⟨x,f,h1,h2,h3⟩:=F.sl.three q
  exact ⟨rfl,own.set i [],F.put h2 (Ex.refl G) F.ex (fun p o z => .inl z) (fun p o z _=>z) ⟨rfl,v,rfl,r⟩ (fun p hp=>absurd hp List.not_mem_nil) List.nodup_nil (fun p hp=>absurd hp List.not_mem_nil) (fun s d z=>nomatch z),
   Fm.yD (Step.refl _ _ _) h2 (Ex.refl G) (fun p o z => .inl z) (fun p o z _=>z) (fun p hp=>absurd hp List.not_mem_nil) (fun p z=>z)⟩
def lF (i:Nat) (A:AE):AS:=fun _ ss=>(A ss).toS fun r s=>match r with
 | .im d=>qX i d s
 | .sl _ => .bad
theorem Iz (i:Nat) (d:D) (ss:List SD):qX i d ss = .bad\/qX i d ss = .nx (ss.set i (.im d)):=by
 unfold qX
 cases q:ss[i]? with
 | none=>exact .inl rfl
 | some sd=>
  cases sd with
  | un=>exact .inr rfl
  | im d'=>exact .inr rfl
  | ow io s d'=>cases io with
   | true=>exact .inl rfl
   | false=>exact .inr rfl
theorem aaW {i:Nat} {te:TE} (h:∀ (σ:L2.St) (H:Hp) (Q:VK),tD X.kw X.mg W A σ H Q->te σ H Q) {n:Nat} {D':Ends} (F:Fm X.kw pin G own σ H ss) (w:d8 X.kw X.mg W pin G own H (lF i A n ss)) (k:mV X.kw pin G own H D' (lF i A n ss)):tAsg te (gName i) D' σ H:=by
 refine h σ H _ ⟨pin,G,own,ss,F,w.toS,fun r s1 v G1 own1 H1 e st F1 kk=>?_⟩
 unfold lF at w k
 rw [e] at w k
 cases r with
 | sl j=>exact absurd w id
 | im d=>
  have w':d8 X.kw X.mg W pin G own H (qX i d s1):=w
  have k':mV X.kw pin G own H D' (qX i d s1):=k
  rcases Iz i d s1 with z | z
  ·rw [z] at w'; exact absurd w' id
  ·rw [z] at k'
   obtain ⟨_,own',F2,st2⟩:=OJ F1 kk z
   exact k' _ G1 own' H1 (st.trans st2) F2
theorem tL {i:Nat} {x:Str} {p':Pos} (hN:X.N.Nodup) (hi:X.N[i]? = some x) (hx:Loc X.env.scope x) (he:DE X W e A) (hs:swapsWith e (some (.Name x p')) pos.line X.env=pure false:=by rfl) (hf:X.fn x=true\/X.env.scope.names.lookup x=some .local:=by first | exact .inl rfl | exact .inr rfl | assumption) :
  DS X W (.Assign [.Name x p'] e pos) (lF i A):=
 DS.of (ps_set hN hi hx he hs hf) fun n σ H pin G own ss D' F w k=>aaW (fun _ _ _ h=>h) F w k
def zM (i:Nat) (s:Sh) (d:D) (ss:List SD):cA:=match ss[i]? with
 | some (.ow true _ _) => .bad
 | some _ => .nx (ss.set i (.ow false s d))
 | none => .bad
theorem RP (i:Nat) (s:Sh) (d:D) (ss:List SD):zM i s d ss = .bad\/(zM i s d ss = .nx (ss.set i (.ow false s d))/\∃ sd,ss[i]? = some sd):=by
 unfold zM
 cases q:ss[i]? with
 | none=>exact .inl rfl
 | some sd=>
  cases sd with
  | un=>exact .inr ⟨rfl,_,rfl⟩
  | im d'=>exact .inr ⟨rfl,_,rfl⟩
  | ow io s d'=>cases io with
   | true=>exact .inl rfl
   | false=>exact .inr ⟨rfl,_,rfl⟩
def zN (i:Nat) (A:AE):AS:=fun _ ss=>(A ss).toS fun r s=>match r with
 | .im d=>zM i (.lst .im) d s
 | .sl _ => .bad
theorem Yt {i:Nat} {te:TE} (h:∀ (σ:L2.St) (H:Hp) (Q:VK),tDF X.kw X.mg W A σ H Q->te σ H Q) {n:Nat} {D':Ends} (F:Fm X.kw pin G own σ H ss) (w:d8 X.kw X.mg W pin G own H (zN i A n ss)) (k:mV X.kw pin G own H D' (zN i A n ss)):tAsg te (gName i) D' σ H:=by
 refine h σ H _ ⟨pin,G,own,ss,F,w.toS,fun r s1 p xs l G1 own1 H1 e er st F1 hp hg hn ho rr=>?_⟩
 subst er
 unfold zN at w k
 rw [e] at w k
 have w':d8 X.kw X.mg W pin G own H (zM i (.lst .im) (.lst l) s1):=w
 have k':mV X.kw pin G own H D' (zM i (.lst .im) (.lst l) s1):=k
 rcases RP i (.lst .im) (.lst l) s1 with z | ⟨z,sd,q⟩
 ·rw [z] at w'; exact absurd w' id
 ·rw [z] at k'
  obtain ⟨x,f,h1,h2,h3⟩:=F1.sl.three q
  have sok:qu X.kw G1 H1 (some (.ref p)) (.ow false (.lst .im) (.lst l)) [p]:=⟨.ref p,rfl, .lst hp (bF.K8 rr)⟩
  refine k' _ G1 (own1.set i [p]) H1 (Fm.yD st h2 (Ex.refl G1) (fun p o z => .inl z) (fun p o z _=>z) (fun a ha=>?_) (fun p z=>z)) (F1.put h2 (Ex.refl G1) F1.ex (fun p o z => .inl z) (fun p o z _=>z) sok (fun a ha=>?_) (List.nodup_cons.mpr ⟨List.not_mem_nil,List.nodup_nil⟩) (fun a ha=>?_) (fun s d z=>nomatch z))
  ·rw [List.mem_singleton] at ha; subst ha; exact .inr hn
  ·rw [List.mem_singleton] at ha; subst ha; exact .inr ho
  ·rw [List.mem_singleton] at ha; subst ha; exact hg
theorem Uk {i:Nat} {x:Str} {p':Pos} (hN:X.N.Nodup) (hi:X.N[i]? = some x) (hx:Loc X.env.scope x) (he:DF X W e A) (hs:swapsWith e (some (.Name x p')) pos.line X.env=pure false:=by rfl) (hf:X.fn x=true\/X.env.scope.names.lookup x=some .local:=by first | exact .inl rfl | exact .inr rfl | assumption) :
  DS X W (.Assign [.Name x p'] e pos) (zN i A):=
 DS.of (ps_set hN hi hx he hs hf) fun n σ H pin G own ss D' F w k=>Yt (fun _ _ _ h=>h) F w k
abbrev GT:=D->List SD->Option (List SD)
def Off (vs:List Nat) (σ σ':L2.St):Prop:=σ'.length=σ.length/\∀ j,j ∉ vs->σ'[j]? = σ[j]?
theorem Off.refl (vs:List Nat) (σ:L2.St):Off vs σ σ:=⟨rfl,fun _ _=>rfl⟩
theorem Off.trans {vs ws:List Nat} {σ σ1 σ2:L2.St} (a:Off vs σ σ1) (b:Off ws σ1 σ2):Off (vs++ws) σ σ2:=
 ⟨b.1.trans a.1,fun j hj=>(b.2 j fun h=>hj (List.mem_append_right _ h)).trans (a.2 j fun h=>hj (List.mem_append_left _ h))⟩
theorem Off.set (i:Nat) (σ:L2.St) (x:Option V):Off [i] σ (σ.set i x):=⟨List.length_set,fun j hj=>List.getElem?_set_ne fun e=>hj (by rw [e]; exact List.mem_singleton.mpr rfl)⟩
def ZC (K:Kw) (vs:List Nat) (g:GT):TG:=fun v σ H Q=>∃ pin G own ss d ss',Fm K pin G own σ H ss/\Rep K G v d/\g d ss=some ss'/\∀ σ' G' own' H',Off vs σ σ'->Step own.flatten G H own'.flatten G' H'->Fm K pin G' own' σ' H' ss'->Q σ' H'
abbrev DG (X:Cx) (e:Expr) (vs:List Nat) (g:GT):Prop:=PG X e (ZC X.kw vs g)
def iZ (i:Nat):GT:=fun d ss=>match qX i d ss with
 | .nx s=>some s
 | _=>none
theorem PG.imp {tg:Expr} {t t':TG} (h:PG X tg t) (k:∀ v σ H Q,t' v σ H Q->t v σ H Q):PG X tg t':=⟨fun pins s σ H v u Q I r q=>h.run pins s σ H v u Q I r (k _ _ _ _ q)⟩
theorem mJ {i:Nat} {x:Str} (hN:X.N.Nodup) (hi:X.N[i]? = some x) (hx:Loc X.env.scope x) (hf:X.fn x=true\/X.env.scope.names.lookup x=some .local:=by first | exact .inl rfl | exact .inr rfl | assumption):DG X (.Name x pos) [i] (iZ i):=
 PG.imp (pg_name hN hi hx hf) fun v σ H Q ⟨pin,G,own,ss,d,ss',F,r,e,k⟩=>by
  unfold iZ at e
  rcases Iz i d ss with z | z
  ·rw [z] at e; cases e
  ·rw [z] at e
   cases e
   obtain ⟨_,own',F2,st2⟩:=OJ F r z
   exact k _ G own' H (Off.set i σ _) st2 F2
theorem PGs.imp {tgs:List Expr} {t t':TGs} (h:PGs X tgs t) (k:∀ v σ H Q,t' v σ H Q->t v σ H Q):PGs X tgs t':=⟨fun pins s σ H v u Q I r q=>h.run pins s σ H v u Q I r (k _ _ _ _ q)⟩
end
end DL
namespace DL
open PySem PySem.Spec PyProof.Rows L2
inductive rG where
 | bad | val (l:List D) (ss:List SD) | exc (c:Str) (fs:List (Str×D)) (ss:List SD)
abbrev AI:=List SD->rG
def rG.out:rG->Out
 | .bad => .bad
 | .val _ ss => .val (.im .non) ss
 | .exc c fs ss => .exc c fs ss
def Walk (K:Kw) (G H:Hp) (J:It) (l:List D):Prop:=∀ (i:Nat) (G' H':Hp),Ex G G'->Ex G' H' ->
 (∀ d,l[i]? = some d->J.go i H'/\∀ x H2,J.yld i H' x H2->∃ G2,aU G' H' G2 H2/\Rep K G2 x d)/\(l.length≤i->J.stop i H')
def tDI (K:Kw) (mg:Str->Option Value) (W:WX) (A:AI):TI:=fun σ H R=>∃ pin G own ss,Fm K pin G own σ H ss/\bA K mg W pin G own σ H (A ss).out /\
 ∀ l ss' J G' own' H',A ss = .val l ss'->Step own.flatten G H own'.flatten G' H'->Fm K pin G' own' σ H' ss'->Walk K G' H' J l->R J H'
abbrev DI (X:Cx) (W:WX) (tg e:Expr) (A:AI):Prop:=PI X tg e (tDI X.kw X.mg W A)
def D.items:D->Option (List D)
 | .lst l=>some l
 | .tup l=>some l
 | .str x=>some (x.map fun c => .str [c])
 | _=>none
def yL (A:AE):AI:=fun ss=>match A ss with
 | .val (.im d) s=>match d.items with
  | some l => .val l s
  | none => .bad
 | .val (.sl _) _ => .bad
 | .bad => .bad
 | .exc c fs s => .exc c fs s
section
variable {X:Cx} {W:WX} {st:Stmt} {sts rest:List Stmt} {S T B:AS} {tg e a b c:Expr} {A C:AE} {pins:List (Addr×Obj)} {s:Shared} {σ:L2.St} {G H G1 H1:Hp} {pin:L2.St} {own own1:List (List Addr)} {ss ss':List SD} {pos:Pos}
theorem Yu {K:Kw} {p:Addr} {xs:List V} {l:List D} (h:SqL K G p xs) (r:au K G xs l):Walk K G H (Itl K p) l:=fun i G' H' e1 e2=>
 ⟨fun d hd=>by
  obtain ⟨v,h1,h2⟩:=r.get hd
  exact ⟨⟨xs,v,(e1.trans e2).l h,h1⟩,fun x H2 ⟨z,y⟩=>by
   subst z
   have q:=y xs ((e1.trans e2).l h)
   rw [h1] at q; cases q
   exact ⟨G',aU.refl e2,h2.mono e1⟩⟩,
  fun hl=>⟨xs,(e1.trans e2).l h,by rw [r.length]; exact hl⟩⟩
theorem WK {K:Kw} {p:Addr} {xs:List V} {l:List D} (h:SqT K G p xs) (r:au K G xs l):Walk K G H (Itt K p) l:=fun i G' H' e1 e2=>
 ⟨fun d hd=>by
  obtain ⟨v,h1,h2⟩:=r.get hd
  exact ⟨⟨xs,v,(e1.trans e2).t h,h1⟩,fun x H2 ⟨z,y⟩=>by
   subst z
   have q:=y xs ((e1.trans e2).t h)
   rw [h1] at q; cases q
   exact ⟨G',aU.refl e2,h2.mono e1⟩⟩,
  fun hl=>⟨xs,(e1.trans e2).t h,by rw [r.length]; exact hl⟩⟩
theorem walk_str {K:Kw} {x:List Nat} (ok:pG x=true):Walk K G H (Its ⟨x.toArray⟩) (x.map fun c => .str [c]):=fun i G' H' e1 e2=>
 ⟨fun d hd=>by
  rw [List.getElem?_map] at hd
  obtain ⟨c,h1,rfl⟩:=Option.map_eq_some_iff.mp hd
  have hi:=(List.getElem?_eq_some_iff.mp h1).1
  refine ⟨by show i < x.toArray.size; simpa using hi,fun v H2 ⟨z,c',q,e⟩=>?_⟩
  subst z; subst e
  have q':x[i]? = some c':=by simpa using q
  rw [h1] at q'; cases q'
  exact ⟨G',aU.refl e2, .str [c] (Uh ok (List.mem_of_getElem? h1))⟩,
  fun hl=>by show x.toArray.size≤i; simpa using hl⟩
theorem Yv {K:Kw} {lo:Int} {n:Nat}:Walk K G H (Itr lo n) ((List.range n).map fun (k:Nat) => .int (lo+(k:Int))):=fun i G' H' e1 e2=>
 ⟨fun d hd=>by
  rw [List.getElem?_map] at hd
  obtain ⟨c,h1,rfl⟩:=Option.map_eq_some_iff.mp hd
  obtain ⟨hi,hc⟩:=List.getElem?_eq_some_iff.mp h1
  have hi':i < n:=by simpa using hi
  have hc':i=c:=by simpa using hc
  subst hc'
  exact ⟨hi',fun x H2 ⟨z,y⟩=>by subst z; subst y; exact ⟨G',aU.refl e2, .int _⟩⟩,
  fun hl=>by show n≤i; simpa using hl⟩
theorem FQ (h:DE X W e A):DI X W tg e (yL A):=
 ⟨fun pins s σ H R I ⟨pin,G,own,ss,F,w,k⟩=>by
  have hl:=pi_list (tg:=tg) h
  have ht:=pi_tup (tg:=tg) h
  have hs:=pi_str (tg:=tg) h
  unfold yL at w k
  cases q:A ss with
  | bad=>rw [q] at w; exact absurd w id
  | exc c fs s1=>
   rw [q] at w
   exact hl.run pins s σ H R I ⟨pin,G,own,ss,F,by rw [q]; exact w,fun r ss' v G' own' H' e _ _ _=>by rw [q] at e; cases e⟩
  | val r s1=>
   simp only [q] at w k
   cases r with
   | sl i=>exact absurd w id
   | im d=>
    cases d with
    | lst l=>
     refine hl.run pins s σ H R I ⟨pin,G,own,ss,F,by rw [q]; trivial,fun r ss' v G' own' H' e st F' kk=>?_⟩
     rw [q] at e; cases e
     cases kk with
     | lst a b=>exact ⟨_,rfl,⟨_,SqL.of (F'.ex _ _ a)⟩,k l s1 _ G' own' H' rfl st F' (Yu (SqL.of a) b)⟩
    | tup l=>
     refine ht.run pins s σ H R I ⟨pin,G,own,ss,F,by rw [q]; trivial,fun r ss' v G' own' H' e st F' kk=>?_⟩
     rw [q] at e; cases e
     cases kk with
     | tup a b=>exact ⟨_,rfl,⟨_,F'.ex.t a⟩,k l s1 _ G' own' H' rfl st F' (WK a b)⟩
    | str x=>
     refine hs.run pins s σ H R I ⟨pin,G,own,ss,F,by rw [q]; trivial,fun r ss' v G' own' H' e st F' kk=>?_⟩
     rw [q] at e; cases e
     cases kk with
     | str _ ok=>exact ⟨_,rfl,k _ s1 _ G' own' H' rfl st F' (walk_str ok)⟩
    | _=>exact absurd w id⟩
def qD (lo hi:Int):Option (List D):=if -(2 ^ 62)≤lo/\lo < 2 ^ 62 /\ -(2 ^ 62)≤hi/\hi < 2 ^ 62 then some ((List.range (hi - lo).toNat).map fun (k:Nat) => .int (lo+(k:Int))) else none
def rG.of (o:Option (List D)) (ss:List SD):rG:=match o with
 | some l => .val l ss
 | none => .bad
def xH.ac4 (o:xH) (k:List Rv->List SD->rG):rG:=match o with
 | .bad => .bad
 | .exc c fs s => .exc c fs s
 | .val rs s=>k rs s
def yM:List D->Option (List D)
 | [.int n]=>qD 0 n
 | _=>none
def aes:List D->Option (List D)
 | [.int a, .int b]=>qD a b
 | _=>none
def wG (f:List D->Option (List D)) (As:List AE):AI:=fun ss=>(cM As ss).ac4 fun rs s=>rG.of ((gets rs s).bind f) s
theorem Yw {K:Kw} {mg:Str->Option Value} {f:List D->Option (List D)} {As:List AE} {rs:List Rv} (w:bA K mg W pin G own σ H (wG f As ss).out) (e:cM As ss = .val rs ss'):∃ ds l,gets rs ss'=some ds/\f ds=some l/\wG f As ss = .val l ss':=by
 have eq:wG f As ss=rG.of ((gets rs ss').bind f) ss':=by unfold wG; rw [e]; rfl
 rw [eq] at w ⊢
 cases z:gets rs ss' with
 | none=>rw [z] at w; exact absurd w id
 | some ds=>
  rw [z] at w
  cases z2:f ds with
  | none=>
   have w':bA K mg W pin G own σ H (rG.of (f ds) ss').out:=w
   rw [z2] at w'; exact absurd w' id
  | some l=>exact ⟨ds,l,rfl,z2,by show rG.of (f ds) ss'=_; rw [z2]; rfl⟩
theorem Yx {K:Kw} {mg:Str->Option Value} {f:List D->Option (List D)} {As:List AE} (w:bA K mg W pin G own σ H (wG f As ss).out):bA K mg W pin G own σ H (cM As ss).out:=by
 unfold wG at w
 cases q:cM As ss with
 | bad=>rw [q] at w; exact w
 | val rs s=>trivial
 | exc c fs s=>rw [q] at w; exact w
theorem Cq {p:Pos} {A1:AE} (hg:Gl X "range") (hm:X.mg "range" = none) (ha:DA X W [a] [A1]) (hs:starEach [a] X.env=[(false,eval a X.env)]:=by rfl):DI X W tg (.Call (.Name "range" p) [a] [] pos) (wG yM [A1]):=
 ⟨fun pins s σ H R I ⟨pin,G,own,ss,F,w,k⟩=>by
  refine (pi_range1 hg hm ha hs).run pins s σ H R I ⟨pin,G,own,ss,F,Yx w,fun rs ss' vs G' own' H' e st F' kk=>?_⟩
  obtain ⟨ds,l,q1,q2,q3⟩:=Yw w e
  have t:=F'.tops kk q1
  unfold yM at q2
  split at q2
  ·rename_i n
   obtain ⟨x,rfl,t1⟩:=t.one
   obtain rfl:=t1.vInt
   unfold qD at q2
   split at q2
   ·rename_i c
    cases q2
    refine ⟨n,rfl,c.2.2.1,c.2.2.2,?_⟩
    have hh:=k _ ss' (Itr 0 (n - 0).toNat) G' own' H' q3 st F' Yv
    rw [Int.sub_zero] at hh
    exact hh
   ·cases q2
  ·cases q2⟩
def d9 (g:GT) (B:AS) (n:Nat):List D->List SD->cA
 | [],ss => .nx ss
 | x :: xs,ss=>match g x ss with
  | none => .bad
  | some s1=>match B n s1 with
   | .nx s2=>d9 g B n xs s2
   | .ct s2=>d9 g B n xs s2
   | .bk s2 => .nx s2
   | .bad => .bad
   | .rt d s2 => .rt d s2
   | .exc c fs s2 => .exc c fs s2
def tM (I:AI) (g:GT) (B:AS):AS:=fun n ss=>match I ss with
 | .bad => .bad
 | .exc c fs s => .exc c fs s
 | .val l s=>d9 g B n l s
theorem d8.toI {K:Kw} {mg:Str->Option Value} {o:rG} {k:List D->List SD->cA} (w:d8 K mg W pin G own H (match o with | .bad => .bad | .exc c fs s => .exc c fs s | .val l s=>k l s)):bA K mg W pin G own σ H o.out:=by
 cases o with
 | bad=>exact w
 | val l ss=>trivial
 | exc c fs ss'=>
  obtain ⟨C,h1,h2⟩:=w
  exact ⟨C,h1,fun dd G' own' H' s F x=>h2 dd σ G' own' H' s F x⟩
theorem abQ {g:GT} {vs:List Nat} {n:Nat} {D':Ends} {l:List D} {s1:List SD} {J:It} {K:Kw} {mg:Str->Option Value} (F1:Fm K pin G1 own1 σ H1 s1) (Wk:Walk K G1 H1 J l) (w:d8 K mg W pin G1 own1 H1 (d9 g B n l s1)) (k:mV K pin G1 own1 H1 D' (d9 g B n l s1)) :
  ∃ W0:Nat->Nat->L2.St->Hp->Prop,(∃ m,W0 0 m σ H1)/\∀ i m σ H,W0 i m σ H ->
   (J.stop i H/\D'.nx σ H)\/(J.go i H/\∃ N:L2.St->Hp->Prop,(∀ σ' H',N σ' H'->∃ m',m' < m/\W0 (i+1) m' σ' H')/\∀ x H',J.yld i H x H'->ZC K vs g x σ H' fun σ2 H2=>WD K mg W B { D' with nx:=N,ct:=N,bk:=D'.nx } σ2 H2):=by
 generalize hT:d9 g B n l s1=T at w k
 refine ⟨fun i m σ' H'=>∃ G' own' ss',m=(l.drop i).length/\Step own1.flatten G1 H1 own'.flatten G' H'/\Ex G1 G'/\Fm K pin G' own' σ' H' ss'/\d9 g B n (l.drop i) ss'=T,
  ⟨l.length,G1,own1,s1,rfl,Step.refl _ _ _,Ex.refl _,F1,hT⟩,?_⟩
 rintro i m σ' H' ⟨G',own',ss',rfl,st',ex',F',eq⟩
 obtain ⟨wg,ws⟩:=Wk i G' H' ex' F'.ex
 cases q:l.drop i with
 | nil=>
  rw [q] at eq
  have hl:l.length≤i:=by
   have:=congrArg List.length q
   rw [List.length_drop] at this
   have z:l.length - i=0:=this
   omega
  have eq':cA.nx ss'=T:=eq
  rw [<- eq'] at k
  exact .inl ⟨ws hl,k σ' G' own' H' st' F'⟩
 | cons x r=>
  rw [q] at eq
  have hx:l[i]? = some x:=by
   have:=congrArg (fun z:List D=>z[0]?) q
   simpa using this
  have hr:l.drop (i+1)=r:=by
   rw [<- List.tail_drop,q]; rfl
  obtain ⟨go,yl⟩:=wg x hx
  refine .inr ⟨go,fun σ2 H2=>∃ G2 cV ss2,Step own1.flatten G1 H1 cV.flatten G2 H2/\Ex G1 G2/\Fm K pin G2 cV σ2 H2 ss2/\d9 g B n r ss2=T,?_,?_⟩
  ·rintro σ2 H2 ⟨G2,cV,ss2,a1,a2,a3,a4⟩
   exact ⟨r.length,by rw [List.length_cons]; exact Nat.lt_succ_self _,G2,cV,ss2,by rw [hr],a1,a2,a3,by rw [hr]; exact a4⟩
  ·intro v H2 hy
   obtain ⟨G2,al,rr⟩:=yl v H2 hy
   have F2:=F'.alloc al
   have st2:=st'.trans (al.step own'.flatten)
   unfold d9 at eq
   cases q1:g x ss' with
   | none=>rw [q1] at eq; simp only at eq; rw [<- eq] at w; exact absurd w id
   | some s2=>
    rw [q1] at eq
    simp only at eq
    refine ⟨pin,G2,own',ss',x,s2,F2,rr,q1,fun σ3 G3 Jl H3 WL st3 F3=>?_⟩
    have O2:=st2.trans st3
    have WM:Ex G1 G3:=(ex'.trans al.g).trans st3.g
    refine ⟨n,pin,G3,Jl,s2,F3,?_,?_⟩
    ·cases q2:B n s2 with
     | exc c fs s3=>rw [q2] at eq; simp only at eq; rw [<- eq] at w; exact w.step O2
     | bad=>rw [q2] at eq; simp only at eq; rw [<- eq] at w; exact w
     | _=>trivial
    ·cases q2:B n s2 with
     | nx s3=>rw [q2] at eq; simp only at eq; exact fun σ4 G4 Di H4 st4 F4=>⟨G4,Di,s3,O2.trans st4,WM.trans st4.g,F4,eq⟩
     | ct s3=>rw [q2] at eq; simp only at eq; exact fun σ4 G4 Di H4 st4 F4=>⟨G4,Di,s3,O2.trans st4,WM.trans st4.g,F4,eq⟩
     | bk s3=>rw [q2] at eq; simp only at eq; rw [<- eq] at k; exact fun σ4 G4 Di H4 st4 F4=>k σ4 G4 Di H4 (O2.trans st4) F4
     | rt d s3=>rw [q2] at eq; simp only at eq; rw [<- eq] at k; exact fun v σ4 G4 Di H4 st4 F4 r4=>k v σ4 G4 Di H4 (O2.trans st4) F4 r4
     | bad=>rw [q2] at eq; simp only at eq; rw [<- eq] at w; exact w
     | exc c fs s3=>trivial
theorem tO {I:AI} {g:GT} {vs:List Nat} (hp:PassesOwn (model X.prog X.w) X.A X.env X.xe) (hc:X.calm=true) (hi:DI X W tg e I) (hg:DG X tg vs g) (hb:yK X W sts B)
  (hs:∀ x,foldedSetIterable e X.env x=pure x:=by intro _; rfl):DS X W (.For tg e sts [] pos) (tM I g B):=
 DS.of (ps_for hp hc hi hg hb hs) fun n σ H pin G own ss D' F w k=>by
  refine ⟨pin,G,own,ss,F,w.toI,fun l s1 J G1 own1 H1 e st F1 Wk=>?_⟩
  unfold tM at w k
  rw [e] at w k
  have w:d8 X.kw X.mg W pin G own H (d9 g B n l s1):=w
  have k:mV X.kw pin G own H D' (d9 g B n l s1):=k
  exact abQ F1 Wk (w.step st) (k.step st)
end
end DL
namespace DL
open PySem PySem.Spec PyProof.Rows L2
def cZ (ss:List SD):List Nat->List SD
 | []=>ss
 | v :: vs=>(cZ ss vs).set v .un
theorem zP (ss:List SD):∀ {vs:List Nat} {v:Nat} {sd:SD},v∈vs->(cZ ss vs)[v]? = some sd->sd = .un
 | [],v,sd,h,_=>absurd h List.not_mem_nil
 | u :: vs,v,sd,h,e=>by
  unfold cZ at e
  by_cases c:u=v
  ·subst c
   by_cases hl:u < (cZ ss vs).length
   ·rw [List.getElem?_set_self hl] at e; exact (Option.some.inj e).symm
   ·rw [List.getElem?_eq_none (by rw [List.length_set]; omega)] at e; cases e
  ·rw [List.getElem?_set_ne c] at e
   rcases List.mem_cons.mp h with z | z
   ·exact absurd z.symm c
   ·exact zP ss z e
theorem lG (σ:L2.St):∀ vs:List Nat,Off vs σ (wipe σ vs)
 | []=>Off.refl _ _
 | v :: vs=>by
  have ih:=lG σ vs
  refine ⟨by unfold wipe; rw [List.length_set]; exact ih.1,fun j hj=>?_⟩
  unfold wipe
  rw [List.getElem?_set_ne (fun e=>hj (by rw [e]; exact List.mem_cons_self)),ih.2 j fun h=>hj (List.mem_cons_of_mem _ h)]
theorem Lh (σ:L2.St):∀ {vs:List Nat} {v:Nat},v∈vs->v < σ.length->(wipe σ vs)[v]? = some none
 | [],v,h,_=>absurd h List.not_mem_nil
 | u :: vs,v,h,hl=>by
  unfold wipe
  by_cases c:u=v
  ·subst c; rw [List.getElem?_set_self (by rw [(lG σ vs).1]; exact hl)]
  ·rw [List.getElem?_set_ne c]
   rcases List.mem_cons.mp h with z | z
   ·exact absurd z.symm c
   ·exact Lh σ z hl
theorem HX {σ σ2:L2.St} {vs:List Nat} (h:Off vs σ σ2):wipe σ2 vs=wipe σ vs:=by
 have l1:=(lG σ vs).1
 have l2:=(lG σ2 vs).1
 apply List.ext_getElem?
 intro j
 by_cases hj:j∈vs
 ·by_cases hl:j < σ.length
  ·rw [Lh σ hj hl,Lh σ2 hj (by rw [h.1]; exact hl)]
  ·rw [List.getElem?_eq_none (by rw [l2,h.1]; omega),List.getElem?_eq_none (by rw [l1]; omega)]
 ·rw [(lG σ vs).2 j hj,(lG σ2 vs).2 j hj,h.2 j hj]
theorem FT {σ:L2.St} {vs:List Nat}:wipe (wipe σ vs) vs=wipe σ vs:=HX (lG σ vs)
section
variable {K:Kw} {pin:L2.St} {G H:Hp} {own:List (List Addr)} {σ σ2:L2.St} {ss:List SD}
theorem Fm.wipe (F:Fm K pin G own σ H ss):∀ vs:List Nat,∃ own',Fm K pin G own' (L2.wipe σ vs) H (cZ ss vs)/\Step own.flatten G H own'.flatten G H
 | []=>⟨own,F,Step.refl _ _ _⟩
 | v :: vs=>by
  obtain ⟨own1,F1,st1⟩:=Fm.wipe F vs
  show ∃ own',Fm K pin G own' ((L2.wipe σ vs).set v none) H ((cZ ss vs).set v .un)/\_
  cases q:(cZ ss vs)[v]? with
  | none=>
   have hl:(cZ ss vs).length≤v:=List.getElem?_eq_none_iff.mp q
   rw [List.set_eq_of_length_le hl,List.set_eq_of_length_le (by rw [F1.sl.l1]; exact hl)]
   exact ⟨own1,F1,st1⟩
  | some sd=>
   obtain ⟨x,f,h1,h2,h3⟩:=F1.sl.three q
   exact ⟨own1.set v [],F1.put h2 (Ex.refl G) F1.ex (fun p o z => .inl z) (fun p o z _=>z) rfl (fun p hp=>absurd hp List.not_mem_nil) List.nodup_nil (fun p hp=>absurd hp List.not_mem_nil) (fun s d z=>nomatch z),
    Fm.yD st1 h2 (Ex.refl G) (fun p o z => .inl z) (fun p o z _=>z) (fun p hp=>absurd hp List.not_mem_nil) (fun p z=>z)⟩
theorem Fm.swap (F:Fm K pin G own σ H ss) (hl:σ2.length=σ.length) (h:∀ (j:Nat) (sd:SD),ss[j]? = some sd->sd ≠ SD.un->σ2[j]? = σ[j]?):Fm K pin G own σ2 H ss:=by
 refine ⟨F.ex,⟨by rw [hl]; exact F.sl.l1,F.sl.l2,fun i x sd f h1 h2 h3=>?_⟩,F.ap,F.fr,fun i s d e=>?_⟩
 ·cases sd with
  | un=>
   obtain ⟨x',g,_,e2,e3⟩:=F.sl.three h2
   rw [h3] at e2; cases e2
   exact e3
  | im d=>rw [h i _ h2 (fun z=>nomatch z)] at h1; exact F.sl.at' i x _ f h1 h2 h3
  | ow io s d=>rw [h i _ h2 (fun z=>nomatch z)] at h1; exact F.sl.at' i x _ f h1 h2 h3
 ·rw [h i _ e (fun z=>nomatch z)]; exact F.io i s d e
theorem Fm.abR {vs:List Nat} (F:Fm K pin G own (L2.wipe σ vs) H ss) (h:∀ (v:Nat) (sd:SD),v∈vs->ss[v]? = some sd->sd=SD.un):Fm K pin G own σ H ss:=
 F.swap (lG σ vs).1.symm fun j sd e n=>by
  have hj:j ∉ vs:=fun z=>n (h j sd z e)
  exact ((lG σ vs).2 j hj).symm
end
inductive Yy where
 | bad | val (l:List D) (ss:List SD)
def oG (g:GT) (C E:AE) (vs:List Nat):List D->List SD->Yy
 | [],ss => .val [] ss
 | x :: xs,ss=>match g x ss with
  | none => .bad
  | some s1=>match C s1 with
   | .val (.im (.bl true)) s2=>match E s2 with
    | .val (.im d) s3=>match oG g C E vs xs (cZ s3 vs) with
     | .val l s4 => .val (d :: l) s4
     | .bad => .bad
    | _ => .bad
   | .val (.im (.bl false)) s2=>oG g C E vs xs (cZ s2 vs)
   | _ => .bad
def Yy.out:Yy->Out
 | .bad => .bad
 | .val l s=>if l.length≤sizeLine then .val (.im (.lst l)) s else .bad
def zQ (I:AI) (g:GT) (C E:AE) (vs:List Nat):AE:=fun ss=>match I ss with
 | .bad => .bad
 | .exc c fs s => .exc c fs s
 | .val l s=>(oG g C E vs l (cZ s vs)).out
abbrev Mz:WX:=fun _ _ _ _=>False
def Vn:AE:=fun ss => .val (.im (.bl true)) ss
section
variable {X:Cx} {W:WX} {st:Stmt} {tg e a b c elt iter:Expr} {A C E:AE} {I:AI} {g:GT} {pins:List (Addr×Obj)} {s:Shared} {σ:L2.St} {G H G1 H1:Hp} {pin:L2.St} {own own1:List (List Addr)} {ss ss':List SD} {pos:Pos}
abbrev DTs (X:Cx) (W:WX) (ifs:List Expr) (A:AE):Prop:=PTs X ifs (Wu X.kw X.mg W A)
theorem aaX:DTs X W [] Vn:=⟨fun pins s σ H Q I ⟨pin,G,own,ss,F,w,k⟩=>pts_nil.run pins s σ H Q I (k true ss G own H rfl (Step.refl _ _ _) F)⟩
theorem abT {vs:List Nat} {r:Rv} (h:zQ I g C E vs ss = .val r ss'):∃ l,r = .im (.lst l):=by
 unfold zQ at h
 cases q:I ss with
 | bad=>rw [q] at h; cases h
 | exc c fs s=>rw [q] at h; cases h
 | val l s=>
  rw [q] at h
  have h':(oG g C E vs l (cZ s vs)).out = .val r ss':=h
  cases q2:oG g C E vs l (cZ s vs) with
  | bad=>rw [q2] at h'; cases h'
  | val l' s'=>
   rw [q2] at h'
   have h2:(if l'.length≤sizeLine then Out.val (.im (.lst l')) s' else .bad) = .val r ss':=h'
   split at h2
   ·cases h2; exact ⟨l',rfl⟩
   ·cases h2
theorem ac5 {K:Kw} {mg:Str->Option Value} {vs vs':List Nat} (hv:∀ v∈vs',v∈vs) {Q:VK} {l lT:List D} {s1 sT:List SD} {J:It} (F1:Fm K pin G1 own1 σ H1 s1) (Wk:Walk K G1 H1 J l) (qT:oG g C E vs l (cZ s1 vs) = .val lT sT) (hT:lT.length≤sizeLine)
  (k:∀ p xs G' own' H',Step own1.flatten G1 H1 own'.flatten G' H'->Fm K pin G' own' σ H' sT->H' p=some (.lst xs)->G' p=none->H1 p=none->p ∉ own'.flatten->au K G' xs lT->Q (.ref p) H') :
  ∀ D,H1 D=none->∃ W0:Nat->Nat->Hp->Prop,(∃ m,W0 0 m (upd H1 D (.lst [])))/\∀ i m H,W0 i m H ->
   (J.stop i H/\Q (.ref D) H)\/(J.go i H/\∃ Nx:Hp->Prop,(∀ H',Nx H'->∃ m',m' < m/\W0 (i+1) m' H')/\∀ x H',J.yld i H x H'->ZC K vs' g x (L2.wipe σ vs) H' fun σ2 H2=>L2.wipe σ2 vs=L2.wipe σ vs/\Wu K mg Mz C σ2 H2 fun b H3=>
    if b=true then tD K mg Mz E σ2 H3 fun y H4=>∃ acc,H4 D=some (.lst acc)/\acc.length < sizeLine/\Nx (upd H4 D (.lst (acc++[y]))) else Nx H3):=by
 obtain ⟨cV,F2,st2⟩:=F1.wipe vs
 intro D0 WQ
 have hDG:G1 D0=none:=by
  cases q:G1 D0 with
  | none=>rfl
  | some o=>have:=F1.ex D0 o q; rw [WQ] at this; cases this
 have al0:aU G1 H1 G1 (upd H1 D0 (.lst [])):=aU.own F1.ex WQ
 have stS:Step own1.flatten G1 H1 cV.flatten G1 (upd H1 D0 (.lst [])):=st2.trans (al0.step cV.flatten)
 have aeu:D0 ∉ cV.flatten:=fun z=>by
  obtain ⟨o,q⟩:=F2.sl.there D0 z
  rw [WQ] at q; cases q
 refine ⟨fun i m H'=>∃ G' own' ss' acc xJ,m=(l.drop i).length/\Step own1.flatten G1 H1 own'.flatten G' H'/\Ex G1 G'/\Fm K pin G' own' (L2.wipe σ vs) H' ss'/\(∀ (v:Nat) (sd:SD),v∈vs->ss'[v]? = some sd->sd=SD.un) /\
   H' D0=some (.lst acc)/\au K G' acc xJ/\G' D0=none/\D0 ∉ own'.flatten/\∃ lr,oG g C E vs (l.drop i) ss' = .val lr sT/\xJ++lr=lT,
  ⟨l.length,G1,cV,cZ s1 vs,[],[],rfl,stS,Ex.refl _,F2.alloc al0,fun v sd hv e=>zP _ hv e,upd_same, .nil,hDG,aeu,lT,qT,rfl⟩,?_⟩
 rintro i m H' ⟨G',own',ss',acc,xJ,rfl,st',ex',F',un',hA,rA,gA,nA,lr,eq,eqT⟩
 obtain ⟨wg,ws⟩:=Wk i G' H' ex' F'.ex
 cases q:l.drop i with
 | nil=>
  rw [q] at eq
  cases eq
  rw [List.append_nil] at eqT
  subst eqT
  have hl:l.length≤i:=by
   have:=congrArg List.length q
   rw [List.length_drop] at this
   have z:l.length - i=0:=this
   omega
  refine .inl ⟨ws hl,?_⟩
  exact k D0 acc G' own' H' st' (F'.abR un') hA gA WQ nA rA
 | cons x r=>
  rw [q] at eq
  have hx:l[i]? = some x:=by
   have:=congrArg (fun z:List D=>z[0]?) q
   simpa using this
  have hr:l.drop (i+1)=r:=by rw [<- List.tail_drop,q]; rfl
  obtain ⟨go,yl⟩:=wg x hx
  refine .inr ⟨go,fun H2=>∃ G2 cV ss2 acc xJ,Step own1.flatten G1 H1 cV.flatten G2 H2/\Ex G1 G2/\Fm K pin G2 cV (L2.wipe σ vs) H2 ss2/\(∀ (v:Nat) (sd:SD),v∈vs->ss2[v]? = some sd->sd=SD.un) /\
   H2 D0=some (.lst acc)/\au K G2 acc xJ/\G2 D0=none/\D0 ∉ cV.flatten/\∃ lr,oG g C E vs r ss2 = .val lr sT/\xJ++lr=lT,?_,?_⟩
  ·rintro H2 ⟨G2,cV,ss2,acc,xJ,a1,a2,a3,a4,a5,a6,a7,a8,lr,a9,a10⟩
   exact ⟨r.length,by rw [List.length_cons]; exact Nat.lt_succ_self _,G2,cV,ss2,acc,xJ,by rw [hr],a1,a2,a3,a4,a5,a6,a7,a8,lr,by rw [hr]; exact a9,a10⟩
  ·intro v H2 hy
   obtain ⟨G2,al,rr⟩:=yl v H2 hy
   have F2:=F'.alloc al
   have st2:=st'.trans (al.step own'.flatten)
   have HY:∀ {ow1 ow2:List (List Addr)} {Ga Ha Gb Hb:Hp},Step ow1.flatten Ga Ha ow2.flatten Gb Hb->Ga D0=none->D0 ∉ ow1.flatten->∀ {z:List V},Ha D0=some (.lst z)->Hb D0=some (.lst z)/\Gb D0=none/\D0 ∉ ow2.flatten:=by
    intro ow1 ow2 Ga Ha Gb Hb s0 g0 n0 z hz
    refine ⟨s0.h D0 _ hz n0,?_,fun hm=>?_⟩
    ·cases q:Gb D0 with
     | none=>rfl
     | some o=>
      rcases s0.n D0 o q with y | y | y
      ·rw [g0] at y; cases y
      ·rw [hz] at y; cases y
      ·exact absurd y n0
    ·rcases s0.w D0 hm with y | y
     ·exact n0 y
     ·rw [hz] at y; cases y
   unfold oG at eq
   cases q1:g x ss' with
   | none=>rw [q1] at eq; cases eq
   | some s2=>
    rw [q1] at eq
    simp only at eq
    refine ⟨pin,G2,own',ss',x,s2,F2,rr,q1,fun σ3 G3 Jl H3 WL st3 F3=>?_⟩
    have offV:Off vs (L2.wipe σ vs) σ3:=⟨WL.1,fun j hj=>WL.2 j fun z=>hj (hv j z)⟩
    refine ⟨(HX offV).trans FT,?_⟩
    have O2:=st2.trans st3
    have WM:Ex G1 G3:=(ex'.trans al.g).trans st3.g
    have kA:=HY (al.step own'.flatten) gA nA hA
    have kB:=HY st3 kA.2.1 kA.2.2 kA.1
    have rB:=rA.mono (al.g.trans st3.g)
    refine ⟨pin,G3,Jl,s2,F3,?_,fun b s3 G4 Di H4 e4 st4 F4=>?_⟩
    ·cases q2:C s2 with
     | bad=>rw [q2] at eq; cases eq
     | exc c fs s3=>rw [q2] at eq; cases eq
     | val r2 s3=>
      rw [q2] at eq
      cases r2 with
      | sl i=>cases eq
      | im d2=>
       cases d2 <;> first | exact ⟨trivial,trivial⟩ | cases eq
    ·rw [e4] at eq
     have kC:=HY st4 kB.2.1 kB.2.2 kB.1
     have rC:=rB.mono st4.g
     have stB:=O2.trans st4
     cases b with
     | false=>
      have eq:oG g C E vs r (cZ s3 vs) = .val lr sT:=eq
      obtain ⟨aev,F5,st5⟩:=F4.wipe vs
      rw [(HX offV).trans FT] at F5
      have kD:=HY st5 kC.2.1 kC.2.2 kC.1
      exact ⟨G4,aev,cZ s3 vs,acc,xJ,stB.trans st5,WM.trans st4.g,F5,fun v sd hv e=>zP _ hv e,kD.1,rC,kD.2.1,kD.2.2,lr,eq,eqT⟩
     | true=>
      cases q5:E s3 with
      | bad=>simp only [q5] at eq; cases eq
      | exc c fs s4=>simp only [q5] at eq; cases eq
      | val r5 s4=>
       cases r5 with
       | sl i=>simp only [q5] at eq; cases eq
       | im d5=>
        simp only [q5] at eq
        cases q6:oG g C E vs r (cZ s4 vs) with
        | bad=>rw [q6] at eq; cases eq
        | val l6 s6=>
         rw [q6] at eq
         cases eq
         refine ⟨pin,G4,Di,s3,F4,by rw [q5]; trivial,fun r6 s7 v6 G6 agH H6 e6 WR F6 k6=>?_⟩
         rw [q5] at e6; cases e6
         have kE:=HY WR kC.2.1 kC.2.2 kC.1
         have hsz:xJ.length+(l6.length+1)≤sizeLine:=by
          have z:(xJ++d5 :: l6).length≤sizeLine:=by rw [eqT]; exact hT
          rw [List.length_append,List.length_cons] at z; exact z
         refine ⟨acc,kE.1,by rw [(rC.mono WR.g).length]; omega,?_⟩
         obtain ⟨Yz,F7,st7⟩:=F6.wipe vs
         rw [(HX offV).trans FT] at F7
         have kF:=HY st7 kE.2.1 kE.2.2 kE.1
         have ho:∀ p∈Yz.flatten,p ≠ D0:=fun p hp z=>kF.2.2 (z ▸ hp)
         have F8:Fm K pin G6 Yz (L2.wipe σ vs) (upd H6 D0 (.lst (acc++[v6]))) (cZ s4 vs):=by
          refine ⟨fun p o z=>?_,F7.sl.mono (Ex.refl _) fun p hp o z=>by rw [upd_ne (ho p hp)]; exact z,F7.ap,F7.fr,F7.io⟩
          have np:p ≠ D0:=fun q=>by rw [q,kF.2.1] at z; cases z
          rw [upd_ne np]; exact F7.ex p o z
         have stC:=(stB.trans WR).trans st7
         refine ⟨G6,Yz,cZ s4 vs,acc++[v6],xJ++[d5],?_,(WM.trans st4.g).trans WR.g,F8,fun v sd hv e=>zP _ hv e,upd_same,(rC.mono WR.g).append (.cons k6 .nil),kF.2.1,kF.2.2,l6,q6,by rw [List.append_assoc]; exact eqT⟩
         refine ⟨stC.g,stC.n,fun p o z hn=>?_,stC.w,fun p z=>?_⟩
         ·have np:p ≠ D0:=fun q=>by
           rw [q,WQ] at z; cases z
          rw [upd_ne np]; exact stC.h p o z hn
         ·by_cases c:p=D0
          ·rw [c,upd_same] at z; cases z
          ·rw [upd_ne c] at z; exact stC.t p z
theorem aaY {K:Kw} {mg:Str->Option Value} {vs vs':List Nat} (hv:∀ v∈vs',v∈vs) {Q:VK} (h:tDF K mg W (zQ I g C E vs) σ H Q):tLc (tDI K mg W I) (ZC K vs' g) (Wu K mg Mz C) (tD K mg Mz E) vs σ H Q:=by
 obtain ⟨pin,G,own,ss,F,w,k⟩:=h
 have wI:bA K mg W pin G own σ H (I ss).out:=by
  unfold zQ at w
  cases q:I ss with
  | bad=>rw [q] at w; exact w
  | exc c fs s=>rw [q] at w; exact w
  | val l s=>trivial
 refine ⟨pin,G,own,ss,F,wI,fun l s1 J G1 own1 H1 e st F1 Wk=>?_⟩
 have eq0:zQ I g C E vs ss=(oG g C E vs l (cZ s1 vs)).out:=by unfold zQ; rw [e]
 rw [eq0] at w
 cases qT:oG g C E vs l (cZ s1 vs) with
 | bad=>rw [qT] at w; exact absurd w id
 | val lT sT=>
  rw [qT] at w eq0
  have hT:lT.length≤sizeLine:=by
   have w':bA K mg W pin G own σ H (if lT.length≤sizeLine then Out.val (.im (.lst lT)) sT else .bad):=w
   by_cases c:lT.length≤sizeLine
   ·exact c
   ·rw [if_neg c] at w'; exact absurd w' id
  have eq1:zQ I g C E vs ss = .val (.im (.lst lT)) sT:=by
   rw [eq0]; show (if lT.length≤sizeLine then Out.val (.im (.lst lT)) sT else .bad)=_; rw [if_pos hT]
  exact ac5 hv F1 Wk qT hT fun p xs G' own' H' st' F' hA gA hn nA rA=>k _ _ p xs lT G' own' H' eq1 rfl (st.trans st') F' hA gA (st.t p hn) nA rA
end
end DL
namespace DL
open PySem PySem.Spec PyProof.Rows L2
section
variable {X:Cx} {W:WX} {st:Stmt} {sts:List Stmt} {tg e a b c elt iter:Expr} {A C E:AE} {I:AI} {g:GT} {pins:List (Addr×Obj)} {s:Shared} {σ:L2.St} {G H G1 H1:Hp} {pin:L2.St} {own own1:List (List Addr)} {ss ss':List SD} {pos:Pos}
theorem PE.imp {e:Expr} {t t':TE} (h:PE X e t) (k:∀ σ H Q,t' σ H Q->t σ H Q):PE X e t':=⟨fun pins s σ H Q I q=>h.run pins s σ H Q I (k σ H Q q)⟩
theorem PS.imp {t t':TS} (h:PS X st t) (k:∀ D' σ H,t' D' σ H->t D' σ H):PS X st t':=⟨fun pins s σ H D' I q=>h.run pins s σ H D' I (k D' σ H q)⟩
theorem ac6 {scope:Scope} {own:List (Str×Nat)} {ifs:List Expr} {vs':List Nat} (hc:X.calm=true) (hN:X.N.Nodup) (hi:DI X W tg iter I) (ok:BlkOk X.N X.env.scope scope own) (hv:∀ v∈vs',v∈own.map (·.2))
  (hg:∀ (s:Shared) (H:Hp) (C:Addr) (cl:List (Str×Addr)) (fp:List Addr),DG (X.blk s H scope (compEnvC scope cl C X.env) fp) tg vs' g) (ht:∀ (s:Shared) (H:Hp) (D:Addr) (cl:List (Str×Addr)) (fp:List Addr),DTs (X.blk s H scope (compEnvC scope cl D X.env) fp) Mz ifs C)
  (he:∀ (s:Shared) (H:Hp) (D:Addr) (cl:List (Str×Addr)) (fp:List Addr),DE (X.blk s H scope (compEnvC scope cl D X.env) fp) Mz elt E) (hs:∀ x,foldedSetIterable iter X.env x=pure x:=by intro _; rfl):DF X W (.ListComp elt [⟨tg,iter,ifs,0⟩] scope pos) (zQ I g C E (own.map (·.2))):=
 PE.imp (pe_lc hc hN hi ok hg ht he hs) fun σ H Q h=>aaY hv h
theorem ac7 {scope:Scope} {own:List (Str×Nat)} {ifs:List Expr} {vs':List Nat} (hc:X.calm=true) (hN:X.N.Nodup) (hi:DI X W tg iter I) (ok:BlkOk X.N X.env.scope scope own) (hv:∀ v∈vs',v∈own.map (·.2))
  (hg:∀ (s:Shared) (H:Hp) (C:Addr) (cl:List (Str×Addr)) (fp:List Addr),DG (X.blk s H scope (compEnvC scope cl C X.env) fp) tg vs' g) (ht:∀ (s:Shared) (H:Hp) (D:Addr) (cl:List (Str×Addr)) (fp:List Addr),DTs (X.blk s H scope (compEnvC scope cl D X.env) fp) Mz ifs C)
  (he:∀ (s:Shared) (H:Hp) (D:Addr) (cl:List (Str×Addr)) (fp:List Addr),DE (X.blk s H scope (compEnvC scope cl D X.env) fp) Mz elt E) (hs:∀ x,foldedSetIterable iter X.env x=pure x:=by intro _; rfl):DE X W (.ListComp elt [⟨tg,iter,ifs,0⟩] scope pos) (zQ I g C E (own.map (·.2))):=
 (ac6 hc hN hi ok hv hg ht he hs).de fun ss r ss' h=>abT h
mutual
def D.nm:D->Bool
 | .tup l=>D.nms l
 | .lst _=>false
 | .iH _ _=>false
 | .fz _=>false
 | .ob _ _ _=>false
 | _=>true
def D.nms:List D->Bool
 | []=>true
 | d :: l=>D.nm d && D.nms l
end
def gQ:List Rv->Bool
 | []=>true
 | .im _ :: r=>gQ r
 | .sl _ :: _=>false
def Dj (F:FnD) (rs:List Rv) (s:List SD):Out:=match gets rs s with
 | none => .bad
 | some ds=>match F (ds.map .im) with
  | .bad => .bad
  | .ret d _=>if (gQ rs || D.nm d)=true then .val (.im d) s else .bad
  | .exc c fs _=>if (gQ rs || fs.all fun p=>D.nm p.2)=true then .exc c fs s else .bad
def aCall (F:FnD) (As:List AE):AE:=fun ss=>(cM As ss).bind (Dj F)
mutual
theorem Rep.back {K:Kw} {G H:Hp} (h:∀ p xs,SqT K G p xs->SqT K H p xs):∀ {v:V} {d:D},Rep K G v d->D.nm d=true->Rep K H v d
 | _,_, .non,_ => .non
 | _,_, .bl b,_ => .bl b
 | _,_, .int i,_ => .int i
 | _,_, .str x ok,_ => .str x ok
 | _,_, .tup a b,n => .tup (h _ _ a) (au.back h b n)
 | _,_, .lst _ _,n=>absurd n (by simp [D.nm])
 | _,_, .dK _ _ _ _,n=>absurd n (by simp [D.nm])
 | _,_, .dN _ _ _ _,n=>absurd n (by simp [D.nm])
 | _,_, .fz _ _,n=>absurd n (by simp [D.nm])
 | _,_, .ob _ _ _,n=>absurd n (by simp [D.nm])
 | _,_, .xo _ _ _ _ _,n=>absurd n (by simp [D.nm])
theorem au.back {K:Kw} {G H:Hp} (h:∀ p xs,SqT K G p xs->SqT K H p xs):∀ {vs:List V} {ds:List D},au K G vs ds->D.nms ds=true->au K H vs ds
 | _,_, .nil,_ => .nil
 | _,_, .cons a b,n=>by
  have n':(D.nm _ && D.nms _)=true:=n
  rw [Bool.and_eq_true] at n'
  exact .cons (Rep.back h a n'.1) (au.back h b n'.2)
end
mutual
theorem Own.kind {K:Kw} {G H:Hp}:∀ {s:Sh} {v:V} {d:D} {f:List Addr},Own K G H s v d f->∀ p∈f,∀ o,H p=some o->(∀ xs,o ≠ .tup xs)/\∀ u xs,o ≠ .frz u xs
 | _,_,_,_, .im r,p,hp,_,_=>absurd hp List.not_mem_nil
 | _,_,_,_, .lst a b,p,hp,o,ho=>by
  rcases List.mem_cons.mp hp with e | hp
  ·rw [e,a] at ho; cases ho; exact ⟨fun _ z=>(nomatch z),fun _ _ z=>(nomatch z)⟩
  ·exact bF.kind b p hp o ho
 | _,_,_,_, .dK a _ _ b,p,hp,o,ho=>by
  rcases List.mem_cons.mp hp with e | hp
  ·rw [e,a] at ho; cases ho; exact ⟨fun _ z=>(nomatch z),fun _ _ z=>(nomatch z)⟩
  ·exact bF.kind b p hp o ho
 | _,_,_,_, .dN a _ _ b,p,hp,o,ho=>by
  rcases List.mem_cons.mp hp with e | hp
  ·rw [e,a] at ho; cases ho; exact ⟨fun _ z=>(nomatch z),fun _ _ z=>(nomatch z)⟩
  ·exact bF.kind b p hp o ho
 | _,_,_,_, .ob a c _ b,p,hp,o,ho=>by
  rcases List.mem_cons.mp hp with e | hp
  ·rw [e,a] at ho; cases ho; exact ⟨fun _ z=>(nomatch z),fun _ _ z=>(nomatch z)⟩
  rcases List.mem_cons.mp hp with e | hp
  ·rw [e,c] at ho; cases ho; exact ⟨fun _ z=>(nomatch z),fun _ _ z=>(nomatch z)⟩
  ·exact bQ.kind b p hp o ho
 | _,_,_,_, .tb r t,p,hp,o,ho=>by
  obtain ⟨ps,h,_⟩:=t
  rw [List.mem_singleton.mp hp,h] at ho
  cases ho; exact ⟨fun _ z=>(nomatch z),fun _ _ z=>(nomatch z)⟩
theorem bF.kind {K:Kw} {G H:Hp}:∀ {s:Sh} {vs:List V} {ds:List D} {f:List Addr},bF K G H s vs ds f->∀ p∈f,∀ o,H p=some o->(∀ xs,o ≠ .tup xs)/\∀ u xs,o ≠ .frz u xs
 | _,_,_,_, .nil,p,hp,_,_=>absurd hp List.not_mem_nil
 | _,_,_,_, .cons a b,p,hp,o,ho=>by
  rcases List.mem_append.mp hp with hp | hp
  ·exact Own.kind a p hp o ho
  ·exact bF.kind b p hp o ho
theorem bQ.kind {K:Kw} {G H:Hp}:∀ {f:Str} {s:Sh} {xs:List (Str×V)} {ds:List D} {fp:List Addr},bQ K G H f s xs ds fp->∀ p∈fp,∀ o,H p=some o->(∀ xs,o ≠ .tup xs)/\∀ u xs,o ≠ .frz u xs
 | _,_,_,_,_, .nil,p,hp,_,_=>absurd hp List.not_mem_nil
 | _,_,_,_,_, .im _ _ b,p,hp,o,ho=>bQ.kind b p hp o ho
 | _,_,_,_,_, .ow a b,p,hp,o,ho=>by
  rcases List.mem_append.mp hp with hp | hp
  ·exact Own.kind a p hp o ho
  ·exact bQ.kind b p hp o ho
end
theorem Fm.kind {K:Kw} (F:Fm K pin G own σ H ss):∀ p∈own.flatten,∀ o,H p=some o->(∀ xs,o ≠ .tup xs)/\∀ u xs,o ≠ .frz u xs:=fun p hp o ho=>by
 obtain ⟨i,f,h,hp⟩:=bT.mp hp
 obtain ⟨x,sd,_,_,k⟩:=F.sl.Wr h
 cases sd with
 | un=>have k':f=[]:=k; subst k'; exact absurd hp List.not_mem_nil
 | im d=>obtain ⟨k',_⟩:=k; subst k'; exact absurd hp List.not_mem_nil
 | ow io s d=>obtain ⟨v,_,k⟩:=k; exact k.kind p hp o ho
def lend (G H:Hp) (B:List Addr):Hp:=fun p=>if p∈B then H p else G p
def tQ (G:Hp) (B:List Addr):Hp:=fun p=>if p∈B then none else G p
theorem Lj {G H:Hp} {B:List Addr} {p:Addr} (h:p∈B):lend G H B p=H p:=if_pos h
theorem vm {G H:Hp} {B:List Addr} {p:Addr} (h:p ∉ B):lend G H B p=G p:=if_neg h
theorem MF {G:Hp} {B:List Addr} {p:Addr} (h:p∈B):tQ G B p=none:=if_pos h
theorem lH {G:Hp} {B:List Addr} {p:Addr} (h:p ∉ B):tQ G B p=G p:=if_neg h
theorem Ib {K:Kw} (F:Fm K pin G own σ H ss) {B:List Addr} (hB:∀ p∈B,p∈own.flatten):Ex G (lend G H B)/\Ex (lend G H B) H:=by
 refine ⟨fun p o e=>?_,fun p o e=>?_⟩
 ·by_cases h:p∈B
  ·rw [F.fr p (hB p h)] at e; cases e
  ·rw [vm h]; exact e
 ·by_cases h:p∈B
  ·rw [Lj h] at e; exact e
  ·rw [vm h] at e; exact F.ex p o e
theorem WT {K:Kw} (F:Fm K pin G own σ H ss):∀ {rs:List Rv} {vs:List V} {ds:List D},dM K G σ rs vs->gets rs ss=some ds->au K (lend G H own.flatten) vs ds:=by
 obtain ⟨e1,e2⟩:=Ib F (B:=own.flatten) fun p h=>h
 intro rs vs ds k q
 have one:∀ {r:Rv} {v:V} {d:D},xG K G σ r v->r.get ss=some d->Rep K (lend G H own.flatten) v d:=by
  intro r v d k q
  cases r with
  | im d'=>cases q; exact Rep.mono e1 k
  | sl i=>
   have q':(ss[i]?).bind SD.get=some d:=q
   cases z:ss[i]? with
   | none=>rw [z] at q'; cases q'
   | some sd=>
    rw [z] at q'
    have q2:sd.get=some d:=q'
    have hv:σ[i]? = some (some v):=k
    cases sd with
    | un=>cases q2
    | im d'=>
     cases q2
     obtain ⟨u,h1,h2⟩:=F.sl.get z
     rw [hv] at h1; cases h1
     exact h2.mono e1
    | ow io s d'=>
     have q3:(if s.flat=true then some d' else none)=some d:=q2
     split at q3
     ·cases q3
      obtain ⟨u,f,h1,h3,h2⟩:=F.sl.zK z
      rw [hv] at h1; cases h1
      exact h2.freeze e1 fun p hp o ho=>by rw [Lj (bT.mpr ⟨i,f,h3,hp⟩)]; exact ho
     ·cases q3
 induction k generalizing ds with
 | nil=>cases q; exact .nil
 | cons a b ih=>
  rename_i r rs v vs
  unfold gets at q
  cases q1:r.get ss with
  | none=>rw [q1] at q; cases q
  | some d=>
   cases q2:gets rs ss with
   | none=>rw [q1,q2] at q; cases q
   | some ds'=>rw [q1,q2] at q; cases q; exact .cons (one a q1) (ih q2)
theorem aaZ {K:Kw}:∀ {rs:List Rv} {vs:List V} {ds:List D},dM K G σ rs vs->gets rs ss=some ds->gQ rs=true->au K G vs ds:=by
 intro rs vs ds k q h
 induction k generalizing ds with
 | nil=>cases q; exact .nil
 | cons a b ih=>
  rename_i r rs v vs
  cases r with
  | sl i=>cases h
  | im d=>
   unfold gets at q
   cases q2:gets rs ss with
   | none=>simp only [Rv.get,q2] at q; cases q
   | some ds'=>simp only [Rv.get,q2] at q; cases q; exact .cons a (ih q2 h)
theorem Ul {K:Kw} (e:Ex G H):∀ {vs:List V} {ds:List D},au K G vs ds->Fm K (vs.map some) G (List.replicate vs.length []) (vs.map some) H (ds.map .im):=fun {vs ds} r=>by
 have hl:=r.length
 refine ⟨e,⟨by simp [hl],by simp [hl],fun i x sd f h1 h2 h3=>?_⟩,⟨fun i f h=>?_,fun i j f g p h1 _ hp _=>?_⟩,fun p hp=>?_,fun i s d h=>?_⟩
 ·rw [List.getElem?_map] at h1 h2
  obtain ⟨v,hv,rfl⟩:=Option.map_eq_some_iff.mp h1
  obtain ⟨d,hd,rfl⟩:=Option.map_eq_some_iff.mp h2
  obtain ⟨v',hv',rr⟩:=r.get hd
  rw [hv] at hv'; cases hv'
  rw [List.getElem?_replicate] at h3
  split at h3
  ·cases h3; exact ⟨rfl,v,rfl,rr⟩
  ·cases h3
 ·rw [List.getElem?_replicate] at h
  split at h
  ·cases h; exact List.nodup_nil
  ·cases h
 ·rw [List.getElem?_replicate] at h1
  split at h1
  ·cases h1; exact absurd hp List.not_mem_nil
  ·cases h1
 ·have q:p∈(List.replicate vs.length ([]:List Addr)).flatten:=hp
  rw [show (List.replicate vs.length ([]:List Addr)).flatten=[] by simp] at q
  exact absurd q List.not_mem_nil
 ·rfl
theorem Jm (n:Nat):(List.replicate n ([]:List Addr)).flatten=[]:=by simp
theorem FW {K:Kw} (F:Fm K pin G own σ H ss) {B:List Addr} (hB:∀ p∈B,p∈own.flatten) {G' H':Hp} (al:aU (lend G H B) H G' H'):aU G H (tQ G' B) H' where
 g:=fun p o e=>by
  by_cases h:p∈B
  ·rw [F.fr p (hB p h)] at e; cases e
  ·rw [lH h]; exact al.g p o (by rw [vm h]; exact e)
 h:=al.h
 gh:=fun p o e=>by
  by_cases h:p∈B
  ·rw [MF h] at e; cases e
  ·rw [lH h] at e; exact al.gh p o e
 n:=fun p o e=>by
  by_cases h:p∈B
  ·rw [MF h] at e; cases e
  ·rw [lH h] at e
   rcases al.n p o e with z | z
   ·rw [vm h] at z; exact .inl z
   ·exact .inr z
theorem JR {K:Kw} (F:Fm K pin G own σ H ss) {B:List Addr} (hB:∀ p∈B,p∈own.flatten) {G' H':Hp} (al:aU (lend G H B) H G' H'):∀ p xs,SqT K G' p xs->SqT K (tQ G' B) p xs:=fun p xs h=>by
 have out:∀ o,G' p=some o->((∃ xs,o = .tup xs)\/∃ u xs,o = .frz u xs)->p ∉ B:=fun o e z hb=>by
  obtain ⟨o',h'⟩:=F.sl.there p (hB p hb)
  have q1:=al.gh p o e
  have q2:=al.h p o' h'
  rw [q1] at q2; cases q2
  obtain ⟨k1,k2⟩:=F.kind p (hB p hb) _ h'
  rcases z with ⟨ys,z⟩ | ⟨u,ys,z⟩
  ·exact k1 ys z
  ·exact k2 u ys z
 rcases h with (h | ⟨o,h⟩) | h
 ·exact .inl (.inl (by rw [lH (out _ h (.inl ⟨xs,rfl⟩))]; exact h))
 ·exact .inl (.inr ⟨o,by rw [lH (out _ h (.inr ⟨o,_,rfl⟩))]; exact h⟩)
 ·exact .inr h
theorem abW {fs:List (Str×D)} (h:(fs.all fun p=>D.nm p.2)=true):D.nms (fs.map (·.2))=true:=by
 induction fs with
 | nil=>rfl
 | cons p r ih=>
  rw [List.all_cons,Bool.and_eq_true] at h
  show (D.nm p.2 && D.nms (r.map (·.2)))=true
  rw [h.1,ih h.2]; rfl
def yq (K:PySem.W.Frag) (fd:FuncData) (ps:List Str) (g:List Value->Args):Prop:=∀ (s:Shared) (us:List Value),K.In s.heap->us.length=ps.length->BindsTo s fd (g us) (ps.zip us)
def yN:List Value->Args:=fun us=>⟨us,[]⟩
def Um (ks:List Str):List Value->Args:=fun us=>⟨[],ks.zip us⟩
theorem yq.byPos {K:PySem.W.Frag} {fd:FuncData} {ps:List Str} (h:Binds K fd ps []):yq K fd ps yN:=fun s us I hl=>by
 have:=h s us I (by rw [List.append_nil]; exact hl)
 rwa [List.append_nil] at this
theorem yq.of {K:PySem.W.Frag} {fd:FuncData} {ps:List Str} {g:List Value->Args} (h:∀ us:List Value,us.length=ps.length->bindArgs fd (g us)=pure (ps.zip us)):yq K fd ps g:=fun s us _ hl=>BindsTo.of_eq (h us hl)
theorem Ie {k:Nat} {f:Addr} {fd:FuncData} {ps:List Str} {sp:Sp} {E:L2.St->XK} {gb:List Value->Args} {Q:VK} {us:List Value} {vs:List V} (F:FnOk X.prog X.w X.K X.mg X.base (L2.CX X.prog X.w) k f fd ps sp) (hr:Room k X.A) (hb:yq X.K fd ps gb) (hx:PassesAt (L2.CX X.prog X.w) X σ (E σ))
  (I:Inv X pins σ H s) (r:Vals vs us) (h:sp vs H Q (E σ)):wpAny (model X.prog X.w) X.A (call (.ref f) (gb us).pos (gb us).kw) (EP X pins σ Q) X.xe s:=by
 have hl:us.length=ps.length:=by rw [<- r.length]; exact F.len _ _ _ _ h
 refine wpAny_call (codeAny_mono (F.run X.A X.stack s H (gb us) us vs Q (E σ) hr I.env0 (hb s us I.kIn hl) r h) fun r s' hq=>?_)
 cases r with
 | error e=>exact hx pins H s e s' I hq
 | ok fl=>
  cases fl with
  | ret u=>exact I.after hq
  | next=>exact False.elim hq
  | brk=>exact False.elim hq
  | cont=>exact False.elim hq
theorem WW {CXw:L2.WX} {x:Str} {k:Nat} {f:Addr} {fd:FuncData} {ps:List Str} {F:FnD} {us:List Value} {vs:List V} {rs:List Rv} {ss1:List SD} {G1 H1:Hp} {own1:List (List Addr)} {s1:Shared} {gb:List Value->Args}
  (hF:FnOk X.prog X.w X.K X.mg X.base (L2.CX X.prog X.w) k f fd ps (pH X.kw X.mg F)) (hr:Room k X.A) (hb:yq X.K fd ps gb) (tk:Takes X W) (I1:Inv X pins σ H1 s1) (r:Vals vs us) (F1:Fm X.kw pin G1 own1 σ H1 ss1) (kk:dM X.kw G1 σ rs vs)
  (w:bA X.kw X.mg W pin G1 own1 σ H1 (Dj F rs ss1)):wpAny (model X.prog X.w) X.A (call (.ref f) (gb us).pos (gb us).kw) (EPost X pins σ pin G1 own1 H1 (Dj F rs ss1)) X.xe s1:=by
 cases qg:gets rs ss1 with
 | none=>unfold Dj at w; rw [qg] at w; exact absurd w id
 | some ds=>
  obtain ⟨B,hB,rr,hfin⟩:∃ B:List Addr,(∀ p∈B,p∈own1.flatten)/\au X.kw (lend G1 H1 B) vs ds/\(B=[]\/(B=own1.flatten/\gQ rs=false)):=by
   cases qi:gQ rs with
   | true=>
    refine ⟨[],fun p hp=>absurd hp List.not_mem_nil,?_, .inl rfl⟩
    have e:lend G1 H1 []=G1:=by funext p; exact vm List.not_mem_nil
    rw [e]; exact aaZ kk qg qi
   | false=>exact ⟨own1.flatten,fun p h=>h,WT F1 kk qg, .inr ⟨rfl,rfl⟩⟩
  obtain ⟨e1,e2⟩:=Ib F1 hB
  have FA:=Ul (K:=X.kw) (H:=H1) e2 rr
  have Uo:∀ {own':List (List Addr)} {G' H':Hp} {ss':List SD},Step (List.replicate vs.length ([]:List Addr)).flatten (lend G1 H1 B) H1 own'.flatten G' H'->Fm X.kw (vs.map some) G' own' (vs.map some) H' ss'->aU (lend G1 H1 B) H1 G' H':=by
   intro own' G' H' ss' st F'
   rw [Jm] at st
   exact ⟨st.g,fun p o e=>st.h p o e List.not_mem_nil,F'.ex,fun p o e=>by
    rcases st.n p o e with z | z | z
    ·exact .inl z
    ·exact .inr z
    ·exact absurd z List.not_mem_nil⟩
  have ac8:∀ {G' H':Hp} {v:V} {d:D},aU (lend G1 H1 B) H1 G' H'->Rep X.kw G' v d->(gQ rs || D.nm d)=true->Rep X.kw (tQ G' B) v d:=by
   intro G' H' v d al rv c
   rcases hfin with z | ⟨_,z⟩
   ·have e:tQ G' B=G':=by funext p; rw [z]; exact lH List.not_mem_nil
    rw [e]; exact rv
   ·rw [z,Bool.false_or] at c
    exact rv.back (JR F1 hB al) c
  have eqa:Dj F rs ss1=(match F (ds.map .im) with
   | .bad=>Out.bad
   | .ret d _=>if (gQ rs || D.nm d)=true then .val (.im d) ss1 else .bad
   | .exc c fs _=>if (gQ rs || fs.all fun p=>D.nm p.2)=true then .exc c fs ss1 else .bad):=by unfold Dj; rw [qg]
  rw [eqa] at w ⊢
  cases qf:F (ds.map .im) with
  | bad=>rw [qf] at w; exact absurd w id
  | ret d sz=>
   rw [qf] at w
   have c:(gQ rs || D.nm d)=true:=by
    have w':bA X.kw X.mg W pin G1 own1 σ H1 (if (gQ rs || D.nm d)=true then .val (.im d) ss1 else .bad):=w
    by_cases c:(gQ rs || D.nm d)=true
    ·exact c
    ·rw [if_neg c] at w'; exact absurd w' id
   refine thn (Ie (E:=WE W) hF hr hb (passAt tk σ) I1 r (Q:=fun v H'=>∃ G',aU (lend G1 H1 B) H1 G' H'/\Rep X.kw G' v d) ⟨lend G1 H1 B,_,_,FA,by rw [qf]; trivial,fun d' ss' v G' own' H' e st F' rv=>?_⟩) fun u' s' ⟨z,H',I',rz,G',al,rv⟩=>?_
   ·rw [qf] at e; cases e
    exact ⟨G',Uo st F',rv⟩
   ·have WY:=FW F1 hB al
    exact ⟨.im d,ss1,z,H',tQ G' B,own1,by simp only [if_pos c],I',rz,WY.step _,F1.alloc WY,ac8 al rv c⟩
  | exc cn fs sz=>
   rw [qf] at w
   have c:(gQ rs || fs.all fun p=>D.nm p.2)=true:=by
    have w':bA X.kw X.mg W pin G1 own1 σ H1 (if (gQ rs || fs.all fun p=>D.nm p.2)=true then .exc cn fs ss1 else .bad):=w
    by_cases c:(gQ rs || fs.all fun p=>D.nm p.2)=true
    ·exact c
    ·rw [if_neg c] at w'; exact absurd w' id
   simp only [if_pos c] at w
   obtain ⟨C,hC,hW⟩:=w
   refine thn (Ie (E:=WE W) hF hr hb (passAt tk σ) I1 r (Q:=fun v H'=>False) ⟨lend G1 H1 B,_,_,FA,?_,fun d' ss' v G' own' H' e st F' rv=>by rw [qf] at e; cases e⟩) fun u' s' ⟨z,H',I',rz,q⟩=>q.elim
   rw [qf]
   refine ⟨C,hC,fun dd G' own' H' st F' x=>?_⟩
   have al:=Uo st F'
   have WY:=FW F1 hB al
   refine hW dd (tQ G' B) own1 H' (WY.step _) (F1.alloc WY) ?_
   rcases x with x | ⟨d0,xs,h1,h2,h3,h4⟩
   ·exact .inl x
   ·refine .inr ⟨d0,xs,h1,h2,h3,?_⟩
    rcases hfin with z | ⟨_,z⟩
    ·have e:tQ G' B=G':=by funext p; rw [z]; exact lH List.not_mem_nil
     rw [e]; exact h4
    ·rw [z,Bool.false_or] at c
     exact h4.back (JR F1 hB al) (abW c)
theorem jX {x:Str} {p:Pos} {es:List Expr} {k:Nat} {f:Addr} {fd:FuncData} {ps:List Str} {F:FnD} {As:List AE} (hF:FnOk X.prog X.w X.K X.mg X.base (L2.CX X.prog X.w) k f fd ps (pH X.kw X.mg F)) (hr:Room k X.A) (hg:Gl X x) (hm:X.mg x=some (.ref f)) (hk:PySem.W.keepIn X.K (.ref f)=true) (hb:Binds X.K fd ps []) (tk:Takes X W)
  (ha:DA X W (e :: es) As) (hdb:(x == ("__debug__" : Str))=false:=by decide) (he:starEach (e :: es) X.env=(false,eval e X.env) :: starEach es X.env:=by rfl) (hpl:(backTo pos (starEach es X.env)).any (·.1)=false:=by rfl):DE X W (.Call (.Name x p) (e :: es) [] pos) (aCall F As):=
 DE.mk fun pins s σ H pin G own ss I F0 w=>by
  refine wpAny_Call_Name_kw (ld_glob I hg hm ?_ hdb)
  refine PySem.W.callWith_K (h₀:=X.base) I.ok.mod.kin hk (thn (ha.go pos I F0 w.args) fun us s1 ⟨vs,H1,rs,ss1,G1,own1,I1,r,e,st,F1,kk⟩=>⟨I1.kIn,?_⟩) he hpl
  have eq:aCall F As ss=Dj F rs ss1:=by unfold aCall; rw [e]; rfl
  rw [eq] at w ⊢
  exact thn (WW (CXw:=W) (x:=x) (gb:=yN) hF hr (yq.byPos hb) tk I1 r F1 kk (w.step st)) fun u s' h=>h.step st
end
end DL
namespace DL
open PySem PySem.Spec PyProof.Rows L2
def fin:List SD->List SD->Option (List SD)
 | [],_=>some []
 | .ow true _ _ :: r, .ow true s' d' :: r'=>(fin r r').map (.ow true s' d' :: ·)
 | .im d :: r,_ :: r'=>(fin r r').map (.im d :: ·)
 | _ :: _,_=>none
def runB (N:Nat) (B:AS) (n:Nat) (ss:List SD):FP:=match B n (ss++List.replicate (N - ss.length) .un) with
 | .nx ss'=>match fin ss ss' with
  | some a => .ret .non a
  | none => .bad
 | .rt d ss'=>match fin ss ss' with
  | some a => .ret d a
  | none => .bad
 | .exc c fs ss'=>match fin ss ss' with
  | some a => .exc c fs a
  | none => .bad
 | _ => .bad
theorem W3:∀ {ss ss' a:List SD},fin ss ss'=some a->a.length=ss.length/\ss.length≤ss'.length/\∀ (i:Nat) (sd:SD),ss[i]? = some sd->(∃ s d s' d',sd = .ow true s d/\ss'[i]? = some (.ow true s' d')/\a[i]? = some (.ow true s' d'))\/((∃ d,sd = .im d)/\a[i]? = some sd)
 | [],ss',a,h=>by cases h; exact ⟨rfl,Nat.zero_le _,fun i sd e=>by simp at e⟩
 | x :: r,[],a,h=>by
  cases x with
  | un=>cases h
  | im d=>cases h
  | ow io s d=>cases io <;> cases h
 | x :: r,y :: r',a,h=>by
  have step:∀ (z:SD),(fin r r').map (z :: ·)=some a->((∃ s d s' d',x = .ow true s d/\y = .ow true s' d'/\z = .ow true s' d')\/((∃ d,x = .im d)/\z=x)) ->
    a.length=(x :: r).length/\(x :: r).length≤(y :: r').length/\∀ (i:Nat) (sd:SD),(x :: r)[i]? = some sd->(∃ s d s' d',sd = .ow true s d/\(y :: r')[i]? = some (.ow true s' d')/\a[i]? = some (.ow true s' d'))\/((∃ d,sd = .im d)/\a[i]? = some sd):=by
   intro z hz hx
   obtain ⟨b,hb,rfl⟩:=Option.map_eq_some_iff.mp hz
   obtain ⟨h1,h2,h3⟩:=W3 hb
   refine ⟨by simp [h1],by simp; exact h2,fun i sd e=>?_⟩
   cases i with
   | zero=>
    have e':x=sd:=by simpa using e
    subst e'
    rcases hx with ⟨s,d,s',d',q1,q2,q3⟩ | ⟨q1,q2⟩
    ·exact .inl ⟨s,d,s',d',q1,by simp [q2],by simp [q3]⟩
    ·exact .inr ⟨q1,by simp [q2]⟩
   | succ i=>
    have:=h3 i sd (by simpa using e)
    simpa using this
  cases x with
  | un=>cases h
  | im d=>exact step (.im d) h (.inr ⟨⟨d,rfl⟩,rfl⟩)
  | ow io s d=>
   cases io with
   | false=>cases h
   | true=>
    cases y with
    | un=>cases h
    | im d'=>cases h
    | ow MJ s' d'=>
     cases MJ with
     | false=>cases h
     | true=>exact step (.ow true s' d') h (.inl ⟨s,d,s',d',rfl,rfl,rfl⟩)
section
variable {K:Kw} {G H G' H':Hp} {own own':List (List Addr)} {σ:L2.St} {ss ss' a:List SD}
theorem YB {N:List Str} {vs:List V} (hN:vs.length≤N.length) (F:Fm K (vs.map some) G own (vs.map some) H ss) :
  Fm K (L2.start N vs) G (own++List.replicate (N.length - vs.length) []) (L2.start N vs) H (ss++List.replicate (N.length - ss.length) .un):=by
 have hl:vs.length=ss.length:=by have:=F.sl.l1; simpa using this
 have ho:own.length=ss.length:=F.sl.l2
 have low:∀ {i:Nat},i < ss.length->(L2.start N vs)[i]? = (vs.map some)[i]?:=fun {i} hi=>by
  unfold L2.start
  rw [List.getElem?_append_left (by simpa [hl] using hi)]
 refine ⟨F.ex,⟨?_,?_,fun i x sd f h1 h2 h3=>?_⟩,⟨fun i f h=>?_,fun i j f g p h1 h2 hp hq=>?_⟩,fun p hp=>?_,fun i s d h=>rfl⟩
 ·unfold L2.start; simp; omega
 ·simp [ho]; omega
 ·by_cases hi:i < ss.length
  ·rw [low hi] at h1
   rw [List.getElem?_append_left hi] at h2
   rw [List.getElem?_append_left (by rw [ho]; exact hi)] at h3
   exact F.sl.at' i x sd f h1 h2 h3
  ·rw [List.getElem?_append_right (by omega),List.getElem?_replicate] at h2
   rw [List.getElem?_append_right (by omega),List.getElem?_replicate] at h3
   split at h2
   ·cases h2
    split at h3
    ·cases h3; rfl
    ·cases h3
   ·cases h2
 ·by_cases hi:i < own.length
  ·rw [List.getElem?_append_left hi] at h; exact F.ap.a1 i f h
  ·rw [List.getElem?_append_right (by omega),List.getElem?_replicate] at h
   split at h
   ·cases h; exact List.nodup_nil
   ·cases h
 ·have out:∀ {k:Nat} {f:List Addr},(own++List.replicate (N.length - vs.length) [])[k]? = some f->p∈f->own[k]? = some f:=fun {k f} h hp=>by
   by_cases hi:k < own.length
   ·rwa [List.getElem?_append_left hi] at h
   ·rw [List.getElem?_append_right (by omega),List.getElem?_replicate] at h
    split at h
    ·cases h; exact absurd hp List.not_mem_nil
    ·cases h
  exact F.ap.a2 i j f g p (out h1 hp) (out h2 hq) hp hq
 ·rw [List.flatten_append] at hp
  rcases List.mem_append.mp hp with hp | hp
  ·exact F.fr p hp
  ·rw [Jm] at hp; exact absurd hp List.not_mem_nil
def jx:List SD->List (List Addr)->List (List Addr)
 | .ow true _ _ :: r,f :: fs=>f :: jx r fs
 | _ :: r,_ :: fs=>[] :: jx r fs
 | _,_=>[]
theorem MK:∀ {ss:List SD} {fs:List (List Addr)},ss.length≤fs.length->(jx ss fs).length=ss.length/\∀ (i:Nat) (sd:SD),ss[i]? = some sd->((∃ s d,sd = .ow true s d)/\(jx ss fs)[i]? = fs[i]?)\/((∀ s d,sd ≠ .ow true s d)/\(jx ss fs)[i]? = some [])
 | [],fs,_=>⟨by cases fs <;> rfl,fun i sd e=>by simp at e⟩
 | x :: r,[],h=>by simp at h
 | x :: r,f :: fs,h=>by
  obtain ⟨h1,h2⟩:=MK (ss:=r) (fs:=fs) (by simpa using h)
  cases x with
  | un=>
   refine ⟨by simp [jx,h1],fun i sd e=>?_⟩
   cases i with
   | zero=>simp at e; subst e; exact .inr ⟨fun _ _ z=>(nomatch z),rfl⟩
   | succ i=>simpa [jx] using h2 i sd (by simpa using e)
  | im d=>
   refine ⟨by simp [jx,h1],fun i sd e=>?_⟩
   cases i with
   | zero=>simp at e; subst e; exact .inr ⟨fun _ _ z=>(nomatch z),rfl⟩
   | succ i=>simpa [jx] using h2 i sd (by simpa using e)
  | ow io s d=>
   cases io with
   | false=>
    refine ⟨by simp [jx,h1],fun i sd e=>?_⟩
    cases i with
    | zero=>simp at e; subst e; exact .inr ⟨fun _ _ z=>(nomatch z),rfl⟩
    | succ i=>simpa [jx] using h2 i sd (by simpa using e)
   | true=>
    refine ⟨by simp [jx,h1],fun i sd e=>?_⟩
    cases i with
    | zero=>simp at e; subst e; exact .inl ⟨⟨s,d,rfl⟩,rfl⟩
    | succ i=>simpa [jx] using h2 i sd (by simpa using e)
theorem O3 {N:List Str} {vs:List V} (hN:vs.length≤N.length) (F:Fm K (vs.map some) G own (vs.map some) H ss) (F':Fm K (L2.start N vs) G' own' σ H' ss') (g:Ex G G') (h:fin ss ss'=some a) :
  ∃ ownA,Fm K (vs.map some) G' ownA (vs.map some) H' a/\∀ p∈ownA.flatten,p∈own'.flatten:=by
 have hl:vs.length=ss.length:=by have:=F.sl.l1; simpa using this
 obtain ⟨f1,f2,f3⟩:=W3 h
 have ho:ss.length≤own'.length:=by rw [F'.sl.l2]; exact f2
 obtain ⟨o1,o2⟩:=MK ho
 have sub:∀ {i:Nat} {f:List Addr},(jx ss own')[i]? = some f->f=[]\/own'[i]? = some f:=fun {i f} e=>by
  have hi:i < ss.length:=by rw [<- o1]; exact (List.getElem?_eq_some_iff.mp e).1
  rcases o2 i _ (List.getElem?_eq_getElem hi) with ⟨_,q⟩ | ⟨_,q⟩
  ·rw [q] at e; exact .inr e
  ·rw [q] at e; cases e; exact .inl rfl
 refine ⟨jx ss own',⟨F'.ex,⟨by simp [hl,f1],by rw [o1,f1],fun i x sd f h1 h2 h3=>?_⟩,⟨fun i f e=>?_,fun i j f g p e1 e2 p1 p2=>?_⟩,fun p hp=>?_,fun i s d e=>rfl⟩,fun p hp=>?_⟩
 ·have hi:i < ss.length:=by rw [<- f1]; exact (List.getElem?_eq_some_iff.mp h2).1
  have hss:=List.getElem?_eq_getElem hi
  rcases f3 i _ hss with ⟨s,d,s',d',q1,q2,q3⟩ | ⟨q1,q2⟩
  ·rw [q3] at h2; cases h2
   rcases o2 i _ hss with ⟨_,z⟩ | ⟨z,_⟩
   ·rw [z] at h3
    obtain ⟨x',f',e1,e2,e3⟩:=F'.sl.three q2
    rw [h3] at e2; cases e2
    have pin:=F'.io i s' d' q2
    rw [e1] at pin
    have z2:(L2.start N vs)[i]? = (vs.map some)[i]?:=by unfold L2.start; rw [List.getElem?_append_left (by simpa [hl] using hi)]
    rw [z2,h1] at pin; cases pin
    exact e3
   ·exact absurd q1 (z s d)
  ·rw [q2] at h2; cases h2
   rcases o2 i _ hss with ⟨⟨s,d,z⟩,_⟩ | ⟨_,z⟩
   ·obtain ⟨d',q⟩:=q1; rw [q] at z; cases z
   ·rw [z] at h3; cases h3
    obtain ⟨x',f',e1,e2,e3⟩:=F.sl.three hss
    rw [h1] at e1; cases e1
    obtain ⟨d,hsd⟩:=q1
    rw [hsd] at e3 ⊢
    obtain ⟨_,v,r1,r2⟩:=e3
    exact ⟨rfl,v,r1,r2.mono g⟩
 ·rcases sub e with z | z
  ·rw [z]; exact List.nodup_nil
  ·exact F'.ap.a1 i f z
 ·rcases sub e1 with z | z
  ·rw [z] at p1; exact absurd p1 List.not_mem_nil
  ·rcases sub e2 with y | y
   ·rw [y] at p2; exact absurd p2 List.not_mem_nil
   ·exact F'.ap.a2 i j f g p z y p1 p2
 ·obtain ⟨i,f,e,hp⟩:=bT.mp hp
  rcases sub e with z | z
  ·rw [z] at hp; exact absurd hp List.not_mem_nil
  ·exact F'.fr p (bT.mpr ⟨i,f,z,hp⟩)
 ·obtain ⟨i,f,e,hp⟩:=bT.mp hp
  rcases sub e with z | z
  ·rw [z] at hp; exact absurd hp List.not_mem_nil
  ·exact bT.mpr ⟨i,f,z,hp⟩
end
end DL
namespace DL
open PySem PySem.Spec PyProof.Rows L2
section
variable {P:Program} {w:World} {K:PySem.W.Frag} {mg:Str->Option Value} {base:Heap}
theorem zR {x qual:Str} {st:Stmt} {f:Addr} {fd:FuncData} {N ps:List Str} {k:Nat} {F:FnD} {B:AS} (Fu:Fun K x qual st f fd) (S:FnScope N ps (defScope st)) (hlen:∀ ss,F ss ≠ .bad->ss.length=ps.length)
  (hF:∀ ss,F ss ≠ .bad->∃ n,runB N.length B n ss=F ss)
  (hB:∀ (cdv:Value) (A:Around) (outer:List Env) (s:Shared) (H:Hp) (E:XK),Room k (A.deeper (envOfC qual (defScope st) s.heap.objs.size f cdv)) ->
   yK (cxOf (L2.CX P w) P w K mg base N qual (defScope st) f cdv A outer s H E) (fun cls d _ H=>E cls d H) (defBody st) B):FnOk P w K mg base (L2.CX P w) (k+1) f fd ps (pH ⟨K,w,mg⟩ mg F):=by
 have hne:∀ {G:Hp} {own:List (List Addr)} {pin σ:L2.St} {H:Hp} {E:XK} {ss:List SD},N7 ⟨K,w,mg⟩ mg E pin G own σ H (F ss)->F ss ≠ .bad:=fun w z=>by rw [z] at w; exact w
 have hps:ps.length≤N.length:=by have:=congrArg List.length S.pre; rw [List.length_take] at this; omega
 refine Fu.okX S (fun vs H Q E h=>?_) fun cdv A outer s H vs Q E hr h=>⟨WD ⟨K,w,mg⟩ mg (fun cls d _ H=>E cls d H) B,hB cdv A outer s H E hr,?_⟩
 ·obtain ⟨G,own,ss,O4,w0,_⟩:=h
  rw [<- hlen ss (hne w0)]
  have:=O4.sl.l1; simpa using this
 ·obtain ⟨G,own,ss,O4,w0,kk⟩:=h
  have hvl:vs.length=ss.length:=by have:=O4.sl.l1; simpa using this
  have ZD:vs.length≤N.length:=by rw [hvl,hlen ss (hne w0)]; exact hps
  obtain ⟨n,hn⟩:=hF ss (hne w0)
  have F1:=YB ZD O4
  have fl:(own++List.replicate (N.length - vs.length) ([]:List Addr)).flatten=own.flatten:=by rw [List.flatten_append,Jm,List.append_nil]
  have w1:N7 ⟨K,w,mg⟩ mg E (vs.map some) G own (vs.map some) H (runB N.length B n ss):=by rw [hn]; exact w0
  unfold runB at hn w1
  refine ⟨n,L2.start N vs,G,_,_,F1,?_,?_⟩
  ·rw [<- hvl] at w1 ⊢
   cases q:B n (ss++List.replicate (N.length - vs.length) SD.un) with
   | bad=>rw [q] at w1; exact w1
   | exc c fs ss'=>
    rw [q] at w1
    simp only at w1
    cases qa:fin ss ss' with
    | none=>rw [qa] at w1; exact w1.elim
    | some a=>
     rw [qa] at w1
     obtain ⟨C,h1,h2⟩:=w1
     refine ⟨C,h1,fun dd σ' G' own' H' st' F' x=>?_⟩
     rw [fl] at st'
     obtain ⟨ownA,FA,sub⟩:=O3 ZD O4 F' st'.g qa
     exact h2 dd G' ownA H' ⟨st'.g,st'.n,st'.h,fun p hp=>st'.w p (sub p hp),st'.t⟩ FA x
   | _=>trivial
  ·rw [<- hvl] at hn w1 ⊢
   cases q:B n (ss++List.replicate (N.length - vs.length) SD.un) with
   | bad=>rw [q] at w1; exact w1
   | exc c fs ss'=>trivial
   | bk ss'=>rw [q] at w1; exact w1.elim
   | ct ss'=>rw [q] at w1; exact w1.elim
   | nx ss'=>
    rw [q] at hn w1
    simp only at hn w1
    cases qa:fin ss ss' with
    | none=>rw [qa] at w1; exact w1.elim
    | some a=>
     rw [qa] at hn
     refine fun σ' G' own' H' st' F'=>?_
     rw [fl] at st'
     obtain ⟨ownA,FA,sub⟩:=O3 ZD O4 F' st'.g qa
     exact kk .non a .non G' ownA H' hn.symm ⟨st'.g,st'.n,st'.h,fun p hp=>st'.w p (sub p hp),st'.t⟩ FA .non
   | rt d ss'=>
    rw [q] at hn w1
    simp only at hn w1
    cases qa:fin ss ss' with
    | none=>rw [qa] at w1; exact w1.elim
    | some a=>
     rw [qa] at hn
     refine fun v σ' G' own' H' st' F' rr=>?_
     rw [fl] at st'
     obtain ⟨ownA,FA,sub⟩:=O3 ZD O4 F' st'.g qa
     exact kk d a v G' ownA H' hn.symm ⟨st'.g,st'.n,st'.h,fun p hp=>st'.w p (sub p hp),st'.t⟩ FA rr
end
section
variable {K:Kw} {pin:L2.St} {G H:Hp} {own:List (List Addr)} {σ:L2.St} {ss:List SD}
theorem Fm.YC {i:Nat} {io:Bool} {l:List D} (F:Fm K pin G own σ H ss) (h:ss[i]? = some (SD.ow io (.lst .im) (.lst l))):∃ p xs,σ[i]? = some (some (.ref p))/\H p=some (.lst xs)/\au K G xs l/\own[i]? = some [p]:=by
 obtain ⟨v,f,h1,h2,h3⟩:=F.sl.zK h
 cases h3 with
 | lst a b=>
  obtain ⟨r,rfl⟩:=b.reps
  exact ⟨_,_,h1,a,r,h2⟩
theorem Fm.abX {i:Nat} {io:Bool} {l l':List D} {p:Addr} {xs xs':List V} (F:Fm K pin G own σ H ss) (h:ss[i]? = some (SD.ow io (.lst .im) (.lst l))) (hσ:σ[i]? = some (some (.ref p))) (hp:H p=some (.lst xs)) (ho:own[i]? = some [p]) (r:au K G xs' l') :
  Fm K pin G own σ (upd H p (.lst xs')) (ss.set i (.ow io (.lst .im) (.lst l')))/\Step own.flatten G H own.flatten G (upd H p (.lst xs')):=by
 have hg:G p=none:=F.fr p (bT.mpr ⟨i,[p],ho,List.mem_singleton.mpr rfl⟩)
 have hh:∀ a o,H a=some o->a ∉ [p]->upd H p (.lst xs') a=some o:=fun a o e n=>by
  rw [upd_ne (fun z=>n (List.mem_singleton.mpr z))]; exact e
 have ht:∀ a,upd H p (.lst xs') a=none->H a=none:=fun a e=>by
  by_cases c:a=p
  ·rw [c,upd_same] at e; cases e
  ·rw [upd_ne c] at e; exact e
 have gh:Ex G (upd H p (.lst xs')):=fun a o e=>by
  have c:a ≠ p:=fun z=>by rw [z,hg] at e; cases e
  rw [upd_ne c]; exact F.ex a o e
 have nd:[p].Nodup:=List.nodup_cons.mpr ⟨List.not_mem_nil,List.nodup_nil⟩
 have q:=F.put (x':=some (.ref p)) (Mu:=.ow io (.lst .im) (.lst l')) (f':=[p]) ho (Ex.refl G) gh (fun a o z => .inl z) hh ⟨.ref p,rfl, .lst upd_same (bF.K8 r)⟩ (fun a ha => .inl ha) nd (fun a ha=>by rw [List.mem_singleton] at ha; rw [ha]; exact hg) (fun s d e=>by
  rw [set_same hσ]
  cases io with
  | true=>exact F.io i _ _ h
  | false=>cases e)
 have st:=Fm.yD (f':=[p]) (Step.refl own.flatten G H) ho (Ex.refl G) (fun a o z => .inl z) hh (fun a ha => .inl ha) ht
 rw [set_same ho,set_same hσ] at q
 rw [set_same ho] at st
 exact ⟨q,st⟩
end
section
variable {X:Cx} {W:WX} {st:Stmt} {sts:List Stmt} {tg e a b c elt iter:Expr} {A C B:AE} {I:AI} {g:GT} {pins:List (Addr×Obj)} {s:Shared} {σ:L2.St} {G H G1 H1:Hp} {pin:L2.St} {own own1:List (List Addr)} {ss ss':List SD} {pos:Pos}
def SD.Vo:SD->Option (Bool×List D)
 | .ow io (.lst .im) (.lst l)=>some (io,l)
 | _=>none
def zU (ss:List SD) (i:Nat):Option (Bool×List D):=(ss[i]?).bind SD.Vo
theorem Cr {i:Nat} {io:Bool} {l:List D} (h:zU ss i=some (io,l)):ss[i]? = some (.ow io (.lst .im) (.lst l)):=by
 unfold zU at h
 cases q:ss[i]? with
 | none=>rw [q] at h; cases h
 | some sd=>
  rw [q] at h
  have h':sd.Vo=some (io,l):=h
  unfold SD.Vo at h'
  split at h'
  ·cases h'; rfl
  ·cases h'
def cA.JT (o:Option (List SD)):cA:=match o with
 | some s => .nx s
 | none => .bad
theorem O5 {K:Kw} {mg:Str->Option Value} {o:Option (List SD)} (w:d8 K mg W pin G own H (cA.JT o)):∃ s,o=some s:=by
 cases o with
 | none=>exact absurd w id
 | some s=>exact ⟨s,rfl⟩
def Ig (i:Nat) (s:List SD) (d:D):Option (List SD):=(zU s i).bind fun q=>if q.2.length < sizeLine then some (s.set i (.ow q.1 (.lst .im) (.lst (q.2++[d])))) else none
def mK (i:Nat) (A:AE):AS:=fun _ ss=>if (zU ss i).isSome then (A ss).toS fun r s=>cA.JT (r.Iw.bind (Ig i s)) else .bad
theorem ZF {r:Rv} {d:D} (h:r.Iw=some d):r = .im d:=by cases r with | im d'=>cases h; rfl | sl i=>cases h
theorem dY {α β:Type} {o:Option α} {f:α->Option β} {y:β} (h:o.bind f=some y):∃ x,o=some x/\f x=some y:=by
 cases o with
 | none=>cases h
 | some x=>exact ⟨x,rfl,h⟩
theorem FZ {i:Nat} {x:Str} {apos cpos npos:Pos} (hv:PE X (.Name x npos) (tVar i)) (ha:DE X W e A)
  (hst:starEach (e :: []) X.env=(false,eval e X.env) :: starEach [] X.env:=by rfl)
  (hs:swapsWith (.Call (.Attribute (.Name x npos) "append" apos) [e] [] cpos) none pos.line X.env=pure false:=by rfl)
  (hbase:attributeBase (.Name x npos) "append" X.env (eval (.Name x npos) X.env)=eval (.Name x npos) X.env:=by rfl)
  (hfew:((backTo cpos (starEach (e :: []) X.env)).all (fun x=>!x.1) && (backToKw cpos (keywordEach [] X.env)).all (fun x=>x.1.isSome) && decide ((e :: []).length+([]:List Keyword).length+(if ([]:List Keyword).isEmpty then 0 else 1) < 30))=true:=by rfl)
  (hline:(apos.endLine == cpos.line)=true:=by rfl) (hplain:(backTo cpos (starEach [] X.env)).any (·.1)=false:=by rfl) :
  DS X W (.Expr (.Call (.Attribute (.Name x npos) "append" apos) [e] [] cpos) pos) (mK i A):=
 DS.of (ps_expr (pe_bm PySem.F.plainAttrs_list PySem.F.slot_list_append PySem.F.type_list_append mt_append hv (pa_cons ha pa_nil hst) hbase hfew hline hst hplain) hs) fun n σ H pin G own ss D' F w k=>by
  unfold mK at w k
  cases q:zU ss i with
  | none=>rw [q] at w; exact absurd w id
  | some v=>
   obtain ⟨io,l⟩:=v
   rw [q] at w k
   have w:d8 X.kw X.mg W pin G own H ((A ss).toS fun r s=>cA.JT (r.Iw.bind (Ig i s))):=w
   have k:mV X.kw pin G own H D' ((A ss).toS fun r s=>cA.JT (r.Iw.bind (Ig i s))):=k
   obtain ⟨p,xs,h1,h2,h3,h4⟩:=F.YC (Cr q)
   refine ⟨.ref p,h1, .inl ⟨rfl,xs,SqL.of h2⟩,pin,G,own,ss,F,w.toS,fun r s1 v G1 own1 H1 e st F1 kk=>?_⟩
   rw [e] at w k
   obtain ⟨s2,z⟩:=O5 w
   have k:mV X.kw pin G own H D' (cA.JT (r.Iw.bind (Ig i s1))):=k
   rw [z] at k
   obtain ⟨d,z1,z2⟩:=dY z
   obtain rfl:=ZF z1
   obtain ⟨⟨MJ,l'⟩,z3,z4⟩:=dY z2
   have z5:(if l'.length < sizeLine then some (s1.set i (.ow MJ (.lst .im) (.lst (l'++[d])))) else none)=some s2:=z4
   split at z5
   ·rename_i c
    cases z5
    obtain ⟨p',xs',g1,g2,g3,g4⟩:=F1.YC (Cr z3)
    rw [h1] at g1; cases g1
    obtain ⟨F2,st2⟩:=F1.abX (Cr z3) h1 g2 g4 (g3.append (.cons kk .nil))
    exact ⟨p,xs',v,rfl,rfl,g2,by rw [g3.length]; exact c,k σ G1 own1 _ (st.trans st2) F2⟩
   ·cases z5
def abY (i:Nat) (s:List SD) (d:D) (z:D):Option (List SD):=match z with
 | .int j=>(zU s i).bind fun q=>(ixN q.2.length j).map fun m=>s.set i (.ow q.1 (.lst .im) (.lst (q.2.set m d)))
 | _=>none
def yO (i:Nat) (j:Int) (A:AE):AS:=fun _ ss=>(A ss).toS fun r s=>cA.JT (r.Iw.bind fun d=>abY i s d (.int j))
theorem Vp {i:Nat} {j:Int} {x:Str} {npos ipos spos:Pos} {ik:Nat} (hv:PE X (.Name x npos) (tVar i)) (ha:DE X W e A)
  (hs:swapsWithSole [.Subscript (.Name x npos) (.Constant (.int j) ik ipos) spos] e pos.line X.env=pure false:=by rfl) (hw:swappedStores [.Subscript (.Name x npos) (.Constant (.int j) ik ipos) spos] e X.env=pure none:=by rfl)
  (h1:(assignEach [.Subscript (.Name x npos) (.Constant (.int j) ik ipos) spos] X.env).map (·.2)=[assign (.Subscript (.Name x npos) (.Constant (.int j) ik ipos) spos) X.env]:=by rfl) :
  DS X W (.Assign [.Subscript (.Name x npos) (.Constant (.int j) ik ipos) spos] e pos) (yO i j A):=
 DS.of (ps_asg ha (pg_sub hv pe_int set_list) hs hw h1) fun n σ H pin G own ss D' F w k=>by
  unfold yO at w k
  refine ⟨pin,G,own,ss,F,w.toS,fun r s1 v G1 own1 H1 e st F1 kk=>?_⟩
  rw [e] at w k
  obtain ⟨s2,z⟩:=O5 w
  have k:mV X.kw pin G own H D' (cA.JT (r.Iw.bind fun d=>abY i s1 d (.int j))):=k
  rw [z] at k
  obtain ⟨d,z1,z2⟩:=dY z
  obtain rfl:=ZF z1
  obtain ⟨⟨io,l⟩,z3,z4⟩:=dY z2
  obtain ⟨m,z5,rfl⟩:=Option.map_eq_some_iff.mp z4
  obtain ⟨p,xs,g1,g2,g3,g4⟩:=F1.YC (Cr z3)
  obtain ⟨F2,st2⟩:=F1.abX (Cr z3) g1 g2 g4 (g3.set kk m)
  exact ⟨.ref p,g1,p,xs,j,m,rfl,rfl,g2,by rw [g3.length]; exact z5,k σ G1 own1 _ (st.trans st2) F2⟩
def ZG (i:Nat):AE:=fun ss=>match ss[i]? with
 | some (.ow false _ d) => .val (.im d) (ss.set i (.im d))
 | some (.im d) => .val (.im d) ss
 | _ => .bad
theorem ac9 {i:Nat} {x:Str} {npos:Pos} (hv:PE X (.Name x npos) (tVar i)):DE X W (.Name x npos) (ZG i):=
 DE.of hv fun σ H pin G own ss Q F w k=>by
  unfold ZG at w k
  cases q:ss[i]? with
  | none=>rw [q] at w; exact absurd w id
  | some sd=>
   rw [q] at w k
   cases sd with
   | un=>exact absurd w id
   | im d=>
    obtain ⟨v,h1,h2⟩:=F.sl.get q
    exact ⟨v,h1,k (.im d) ss v G own H rfl (Step.refl _ _ _) F h2⟩
   | ow io sh d=>
    cases io with
    | true=>exact absurd w id
    | false=>
     obtain ⟨v,f,h1,h2,h3⟩:=F.sl.zK q
     have sub:∀ p∈f,p∈own.flatten:=fun p hp=>bT.mpr ⟨i,f,h2,hp⟩
     have e1:Ex G (lend G H f):=(Ib F sub).1
     have e2:Ex (lend G H f) H:=(Ib F sub).2
     have r:Rep X.kw (lend G H f) v d:=h3.freeze e1 fun p hp o ho=>by rw [Lj hp]; exact ho
     have hn:∀ p o,lend G H f p=some o->G p=some o\/H p=none\/p∈f:=fun p o z=>by
      by_cases c:p∈f
      ·exact .inr (.inr c)
      ·rw [vm c] at z; exact .inl z
     have F2:=F.put (x':=some v) (Mu:=.im d) (f':=[]) h2 e1 e2 hn (fun p o z _=>z) ⟨rfl,v,rfl,r⟩ (fun p hp=>absurd hp List.not_mem_nil) List.nodup_nil (fun p hp=>absurd hp List.not_mem_nil) (fun s d z=>nomatch z)
     rw [set_same h1] at F2
     exact ⟨v,h1,k (.im d) _ v (lend G H f) (own.set i []) H rfl (Fm.yD (Step.refl _ _ _) h2 e1 hn (fun p o z _=>z) (fun p hp=>absurd hp List.not_mem_nil) fun p z=>z) F2 r⟩
end
end DL
namespace DL
open PySem PySem.Spec PyProof.Rows L2
def N8:List Rv->Option (List SD)
 | []=>some []
 | .im d :: r=>(N8 r).map (.im d :: ·)
 | .sl _ :: _=>none
def Ge:List Rv->Nat->SD->Option (List SD)
 | [],_,_=>none
 | _ :: r,0,sd=>(N8 r).map (sd :: ·)
 | .im d :: r,j+1,sd=>(Ge r j sd).map (.im d :: ·)
 | .sl _ :: _,_+1,_=>none
def SD.own? : SD->Option (Bool×Sh×D)
 | .ow io sh d=>some (io,sh,d)
 | _=>none
def yP (j:Nat) (F:FnD) (rs:List Rv) (s:List SD):Out:=match rs[j]? with
 | some (.sl i)=>match (s[i]?).bind SD.own? with
  | some (io,sh,d)=>match Ge rs j (.ow true sh d) with
   | some args=>match F args with
    | .bad => .bad
    | .ret r a=>match (a[j]?).bind SD.own? with
     | some (_,sh',d') => .val (.im r) (s.set i (.ow io sh' d'))
     | none => .bad
    | .exc c fs a=>match (a[j]?).bind SD.own? with
     | some (_,sh',d') => .exc c fs (s.set i (.ow io sh' d'))
     | none => .bad
   | none => .bad
  | none => .bad
 | _ => .bad
def mO (j:Nat) (F:FnD) (As:List AE):AE:=fun ss=>(cM As ss).bind (yP j F)
theorem Lk {o:Option SD} {io:Bool} {sh:Sh} {d:D} (h:o.bind SD.own? = some (io,sh,d)):o=some (.ow io sh d):=by
 cases o with
 | none=>cases h
 | some sd=>cases sd <;> cases h; rfl
section
variable {K:Kw} {pin:L2.St} {G H:Hp} {own:List (List Addr)} {σ:L2.St} {ss:List SD}
theorem O6:∀ {rs:List Rv} {vs:List V} {args:List SD},dM K G σ rs vs->N8 rs=some args->vs.length=args.length/\∀ (k:Nat) (sd:SD),args[k]? = some sd->∃ d v,sd = .im d/\vs[k]? = some v/\Rep K G v d
 | _,_,_, .nil,h=>by cases h; exact ⟨rfl,fun k sd e=>by simp at e⟩
 | .im d :: rs,_,_, .cons a b,h=>by
  obtain ⟨m,hm,rfl⟩:=Option.map_eq_some_iff.mp h
  obtain ⟨l,f⟩:=O6 b hm
  refine ⟨by simp [l],fun k sd e=>?_⟩
  cases k with
  | zero=>simp at e; subst e; exact ⟨d,_,rfl,rfl,a⟩
  | succ k=>simpa using f k sd (by simpa using e)
 | .sl i :: rs,_,_, .cons a b,h=>nomatch h
theorem Uq:∀ {rs:List Rv} {vs:List V} {args:List SD} {j:Nat} {ZJ:SD},dM K G σ rs vs->Ge rs j ZJ=some args->vs.length=args.length/\args[j]? = some ZJ/\∀ (k:Nat) (sd:SD),k ≠ j->args[k]? = some sd->∃ d v,sd = .im d/\vs[k]? = some v/\Rep K G v d
 | _,_,_,_,_, .nil,h=>nomatch h
 | r :: rs,_,args,0,ZJ, .cons a b,h=>by
  have h':(N8 rs).map (ZJ :: ·)=some args:=by simpa only [Ge] using h
  obtain ⟨m,hm,rfl⟩:=Option.map_eq_some_iff.mp h'
  obtain ⟨l,f⟩:=O6 b hm
  refine ⟨by simp [l],rfl,fun k sd n e=>?_⟩
  cases k with
  | zero=>exact absurd rfl n
  | succ k=>simpa using f k sd (by simpa using e)
 | .im d :: rs,_,_,j+1,_, .cons a b,h=>by
  obtain ⟨m,hm,rfl⟩:=Option.map_eq_some_iff.mp h
  obtain ⟨l,g,f⟩:=Uq b hm
  refine ⟨by simp [l],by simpa using g,fun k sd n e=>?_⟩
  cases k with
  | zero=>simp at e; subst e; exact ⟨d,_,rfl,rfl,a⟩
  | succ k=>simpa using f k sd (fun z=>n (by rw [z])) (by simpa using e)
 | .sl i :: rs,_,_,_+1,_, .cons a b,h=>nomatch h
theorem dM.at':∀ {rs:List Rv} {vs:List V} {j:Nat} {r:Rv},dM K G σ rs vs->rs[j]? = some r->∃ v,vs[j]? = some v/\xG K G σ r v
 | _,_,_,_, .nil,h=>by simp at h
 | _,_,0,_, .cons a b,h=>by simp at h; subst h; exact ⟨_,rfl,a⟩
 | _,_,j+1,_, .cons a b,h=>by simpa using dM.at' b (by simpa using h)
def Dk (n j:Nat) (f:List Addr):List (List Addr):=(List.replicate n []).set j f
theorem yQ {n j k:Nat} {f g:List Addr} (h:(Dk n j f)[k]? = some g):(k=j/\g=f)\/(k ≠ j/\g=[]):=by
 unfold Dk at h
 by_cases c:k=j
 ·subst c
  rw [List.getElem?_set_self'] at h
  rw [List.getElem?_replicate] at h
  split at h
  ·exact .inl ⟨rfl,(Option.some.inj h).symm⟩
  ·cases h
 ·rw [List.getElem?_set_ne (Ne.symm c),List.getElem?_replicate] at h
  split at h
  ·exact .inr ⟨c,(Option.some.inj h).symm⟩
  ·cases h
theorem zV {n j:Nat} {f:List Addr} {p:Addr} (h:p∈(Dk n j f).flatten):p∈f:=by
 obtain ⟨i,g,e,hp⟩:=bT.mp h
 rcases yQ e with ⟨_,z⟩ | ⟨_,z⟩
 ·rw [z] at hp; exact hp
 ·rw [z] at hp; exact absurd hp List.not_mem_nil
theorem ada {rs:List Rv} {vs:List V} {args:List SD} {i j:Nat} {io:Bool} {sh:Sh} {d:D} (F:Fm K pin G own σ H ss) (kk:dM K G σ rs vs) (hj:rs[j]? = some (.sl i)) (hi:ss[i]? = some (.ow io sh d)) (ha:Ge rs j (.ow true sh d)=some args) :
  ∃ v f,σ[i]? = some (some v)/\own[i]? = some f/\vs[j]? = some v/\Fm K (vs.map some) G (Dk vs.length j f) (vs.map some) H args:=by
 obtain ⟨v,f,h1,h2,h3⟩:=F.sl.zK hi
 obtain ⟨v',g1,g2⟩:=kk.at' hj
 have g2':σ[i]? = some (some v'):=g2
 rw [h1] at g2'; cases g2'
 obtain ⟨l,a1,a2⟩:=Uq kk ha
 refine ⟨v,f,h1,h2,g1,F.ex,⟨by simp [l],by simp [Dk,l],fun k x sd g e1 e2 e3=>?_⟩,⟨fun k g e=>?_,fun k k' g g' p e1 e2 p1 p2=>?_⟩,fun p hp=>?_,fun k s d e=>rfl⟩
 ·rw [List.getElem?_map] at e1
  obtain ⟨y,hy,rfl⟩:=Option.map_eq_some_iff.mp e1
  rcases yQ e3 with ⟨c,z⟩ | ⟨c,z⟩
  ·subst c
   rw [g1] at hy; cases hy
   rw [a1] at e2; cases e2
   rw [z]
   exact ⟨v,rfl,h3⟩
  ·obtain ⟨d',v',q1,q2,q3⟩:=a2 k sd c e2
   rw [hy] at q2; cases q2
   rw [q1,z]
   exact ⟨rfl,_,rfl,q3⟩
 ·rcases yQ e with ⟨_,z⟩ | ⟨_,z⟩
  ·rw [z]; exact F.ap.a1 i f h2
  ·rw [z]; exact List.nodup_nil
 ·rcases yQ e1 with ⟨c,z⟩ | ⟨_,z⟩
  ·rcases yQ e2 with ⟨c',_⟩ | ⟨_,z'⟩
   ·rw [c,c']
   ·rw [z'] at p2; exact absurd p2 List.not_mem_nil
  ·rw [z] at p1; exact absurd p1 List.not_mem_nil
 ·exact F.fr p (bT.mpr ⟨i,f,h2,zV hp⟩)
theorem JV {vs:List V} {a:List SD} {i j:Nat} {io MJ:Bool} {sh sh':Sh} {d d':D} {v:V} {f:List Addr} {G' H':Hp} {own':List (List Addr)} (F:Fm K pin G own σ H ss) (hi:ss[i]? = some (.ow io sh d)) (h1:σ[i]? = some (some v)) (h2:own[i]? = some f) (g1:vs[j]? = some v)
  (st:Step (Dk vs.length j f).flatten G H own'.flatten G' H') (F':Fm K (vs.map some) G' own' (vs.map some) H' a) (ha:a[j]? = some (.ow MJ sh' d')) :
  ∃ f',Fm K pin G' (own.set i f') σ H' (ss.set i (.ow io sh' d'))/\Step own.flatten G H (own.set i f').flatten G' H':=by
 obtain ⟨v',f',e1,e2,e3⟩:=F'.sl.zK ha
 have e1':(vs.map some)[j]? = some (some v):=by rw [List.getElem?_map,g1]; rfl
 rw [e1'] at e1; cases e1
 have hn:∀ p o,G' p=some o->G p=some o\/H p=none\/p∈f:=fun p o e=>by
  rcases st.n p o e with z | z | z
  ·exact .inl z
  ·exact .inr (.inl z)
  ·exact .inr (.inr (zV z))
 have hh:∀ p o,H p=some o->p ∉ f->H' p=some o:=fun p o e n=>st.h p o e fun z=>n (zV z)
 have sub:∀ p∈f',p∈own'.flatten:=fun p hp=>bT.mpr ⟨j,f',e2,hp⟩
 have hw0:∀ p∈f',p∈f\/H p=none:=fun p hp=>by
  rcases st.w p (sub p hp) with z | z
  ·exact .inl (zV z)
  ·exact .inr z
 have q:=F.put (x':=some v) (Mu:=.ow io sh' d') (f':=f') h2 st.g F'.ex hn hh ⟨v,rfl,e3⟩ (fun p hp=>by
  rcases hw0 p hp with z | z
  ·exact .inl z
  ·refine .inr fun w=>?_
   obtain ⟨o,ho⟩:=F.sl.there p w
   rw [z] at ho; cases ho) (F'.ap.a1 j f' e2) (fun p hp=>F'.fr p (sub p hp)) (fun s d e=>by
   rw [set_same h1]
   cases io with
   | true=>exact F.io i _ _ hi
   | false=>cases e)
 rw [set_same h1] at q
 exact ⟨f',q,Fm.yD (f':=f') (Step.refl own.flatten G H) h2 st.g hn hh hw0 st.t⟩
end
section
variable {X:Cx} {W:WX} {e a b c:Expr} {A B C:AE} {pins:List (Addr×Obj)} {s:Shared} {σ:L2.St} {G H:Hp} {pin:L2.St} {own:List (List Addr)} {ss ss':List SD} {pos:Pos}
theorem aa0 {k:Nat} {f:Addr} {fd:FuncData} {ps:List Str} {F:FnD} {us:List Value} {vs:List V} {rs:List Rv} {ss1:List SD} {G1 H1:Hp} {own1:List (List Addr)} {s1:Shared} {gb:List Value->Args} {j:Nat}
  (hF:FnOk X.prog X.w X.K X.mg X.base (L2.CX X.prog X.w) k f fd ps (pH X.kw X.mg F)) (hr:Room k X.A) (hb:yq X.K fd ps gb) (tk:Takes X W) (I1:Inv X pins σ H1 s1) (r:Vals vs us) (F1:Fm X.kw pin G1 own1 σ H1 ss1) (kk:dM X.kw G1 σ rs vs)
  (w:bA X.kw X.mg W pin G1 own1 σ H1 (yP j F rs ss1)):wpAny (model X.prog X.w) X.A (call (.ref f) (gb us).pos (gb us).kw) (EPost X pins σ pin G1 own1 H1 (yP j F rs ss1)) X.xe s1:=by
 unfold yP at w ⊢
 cases q1:rs[j]? with
 | none=>rw [q1] at w; exact absurd w id
 | some r1=>
  cases r1 with
  | im d=>rw [q1] at w; exact absurd w id
  | sl i=>
   rw [q1] at w
   simp only at w ⊢
   cases q2:(ss1[i]?).bind SD.own? with
   | none=>rw [q2] at w; exact absurd w id
   | some t=>
    obtain ⟨io,sh,d⟩:=t
    rw [q2] at w
    simp only at w ⊢
    have q2':=Lk q2
    cases q3:Ge rs j (.ow true sh d) with
    | none=>rw [q3] at w; exact absurd w id
    | some args=>
     rw [q3] at w
     simp only at w ⊢
     obtain ⟨v,fp,h1,h2,g1,FA⟩:=ada F1 kk q1 q2' q3
     cases qf:F args with
     | bad=>rw [qf] at w; exact absurd w id
     | ret d1 a1=>
      rw [qf] at w
      simp only at w ⊢
      cases q4:(a1[j]?).bind SD.own? with
      | none=>rw [q4] at w; exact absurd w id
      | some t=>
       obtain ⟨MJ,sh',d'⟩:=t
       simp only
       refine thn (Ie (E:=WE W) hF hr hb (passAt tk σ) I1 r (Q:=fun v H'=>∃ G' own',Step (Dk vs.length j fp).flatten G1 H1 own'.flatten G' H'/\Fm X.kw (vs.map some) G' own' (vs.map some) H' a1/\Rep X.kw G' v d1)
        ⟨G1,_,args,FA,by rw [qf]; trivial,fun d2 ss2 v2 G' own' H' e st F' rv=>?_⟩) fun u' s' ⟨z,H',I',rz,G',own',st,F',rv⟩=>?_
       ·rw [qf] at e; cases e
        exact ⟨G',own',st,F',rv⟩
       ·obtain ⟨f',F2,st2⟩:=JV F1 q2' h1 h2 g1 st F' (Lk q4)
        exact ⟨.im d1,_,z,H',G',_,rfl,I',rz,st2,F2,rv⟩
     | exc cn fs a1=>
      rw [qf] at w
      simp only at w ⊢
      cases q4:(a1[j]?).bind SD.own? with
      | none=>rw [q4] at w; exact absurd w id
      | some t=>
       obtain ⟨MJ,sh',d'⟩:=t
       rw [q4] at w
       simp only at w ⊢
       obtain ⟨C,hC,hW⟩:=w
       refine thn (Ie (E:=WE W) hF hr hb (passAt tk σ) I1 r (Q:=fun v H'=>False)
        ⟨G1,_,args,FA,?_,fun d2 ss2 v2 G' own' H' e st F' rv=>by rw [qf] at e; cases e⟩) fun u' s' ⟨z,H',I',rz,q⟩=>q.elim
       rw [qf]
       refine ⟨C,hC,fun dd G' own' H' st F' x=>?_⟩
       obtain ⟨f',F2,st2⟩:=JV F1 q2' h1 h2 g1 st F' (Lk q4)
       exact hW dd G' _ H' st2 F2 x
theorem Gf {x:Str} {p:Pos} {es:List Expr} {k j:Nat} {f:Addr} {fd:FuncData} {ps:List Str} {F:FnD} {As:List AE} (hF:FnOk X.prog X.w X.K X.mg X.base (L2.CX X.prog X.w) k f fd ps (pH X.kw X.mg F)) (hr:Room k X.A) (hg:Gl X x) (hm:X.mg x=some (.ref f)) (hk:PySem.W.keepIn X.K (.ref f)=true) (hb:Binds X.K fd ps []) (tk:Takes X W)
  (ha:DA X W (e :: es) As) (hdb:(x == ("__debug__" : Str))=false:=by decide) (he:starEach (e :: es) X.env=(false,eval e X.env) :: starEach es X.env:=by rfl) (hpl:(backTo pos (starEach es X.env)).any (·.1)=false:=by rfl):DE X W (.Call (.Name x p) (e :: es) [] pos) (mO j F As):=
 DE.mk fun pins s σ H pin G own ss I F0 w=>by
  refine wpAny_Call_Name_kw (ld_glob I hg hm ?_ hdb)
  refine PySem.W.callWith_K (h₀:=X.base) I.ok.mod.kin hk (thn (ha.go pos I F0 w.args) fun us s1 ⟨vs,H1,rs,ss1,G1,own1,I1,r,e,st,F1,kk⟩=>⟨I1.kIn,?_⟩) he hpl
  have eq:mO j F As ss=yP j F rs ss1:=by unfold mO; rw [e]; rfl
  rw [eq] at w ⊢
  exact thn (aa0 (gb:=yN) hF hr (yq.byPos hb) tk I1 r F1 kk (w.step st)) fun u' s' h=>h.step st
abbrev DK (X:Cx) (W:WX) (kws:List Keyword) (As:List AE):Prop:=PK X kws (tDA X.kw X.mg W As)
theorem Cu:DK X W [] []:=by
 refine ⟨fun pos pins s σ H Q I h=>?_⟩
 obtain ⟨pin,G,own,ss,F,w,k⟩:=h
 exact wpAny_evalAll_nil ⟨[],H,I, .nil,k [] ss [] G own H rfl (Step.refl _ _ _) F .nil⟩
theorem vo {kws:List Keyword} {As:List AE} {nm:Option Str} {kpos:Pos} (ha:DE X W e A) (hr:DK X W kws As):DK X W (⟨nm,e,kpos⟩ :: kws) (A :: As):=by
 refine ⟨fun pos pins s σ H Q I h=>?_⟩
 obtain ⟨pin,G,own,ss,F,w,k⟩:=h
 show wpAny _ _ (evalAll ((do let v <- eval e X.env; standAt pos; pure v) :: (backToKw pos (keywordEach kws X.env)).map (·.2))) _ _ s
 have w0:bA X.kw X.mg W pin G own σ H (A ss):=by
  unfold cM at w
  cases q:A ss with
  | bad=>rw [q] at w; exact w
  | val r s=>trivial
  | exc c fs s=>rw [q] at w; exact w
 refine wpAny_evalAll_cons (wpAny_bind (thn (ha.go I F w0) fun u s1 ⟨r1,ss1,x,H1,G1,own1,e1,I1,rx,st1,F1,k1⟩=>wpAny_bind (wpAny_standAt (wpAny_pure ?_))))
 have w1:bA X.kw X.mg W pin G own σ H (cM As ss1).out:=by
  unfold cM at w
  rw [e1] at w
  cases q:cM As ss1 with
  | bad=>simp only [q] at w; exact w
  | val r s=>trivial
  | exc c fs s=>simp only [q] at w; exact w
 refine thn (hr.run pos pins s1 σ H1 (fun xs H2=>∃ rs ss2 G2 cV,cM As ss1 = .val rs ss2/\Step own1.flatten G1 H1 cV.flatten G2 H2/\Fm X.kw pin G2 cV σ H2 ss2/\dM X.kw G2 σ rs xs) I1
  ⟨pin,G1,own1,ss1,F1,w1.step st1,fun rs ss2 vs G2 cV H2 e2 st2 F2 k2=>⟨rs,ss2,G2,cV,e2,st2,F2,k2⟩⟩) fun us s2 ⟨xs,H2,I2,r2,rs,ss2,G2,cV,e2,st2,F2,k2⟩=>?_
 refine ⟨x :: xs,H2,I2, .cons rx r2,k (r1 :: rs) ss2 (x :: xs) G2 cV H2 ?_ (st1.trans st2) F2 (.cons (k1.mono st2.g) k2)⟩
 unfold cM
 rw [e1]
 simp only [e2]
theorem DK.go {kws:List Keyword} {As:List AE} (h:DK X W kws As) (pos:Pos) (I:Inv X pins σ H s) (F:Fm X.kw pin G own σ H ss) (w:bA X.kw X.mg W pin G own σ H (cM As ss).out) :
  wpAny (model X.prog X.w) X.A (evalAll ((backToKw pos (keywordEach kws X.env)).map (·.2))) (fun us s'=>∃ vs H1 rs ss1 G1 own1,Inv X pins σ H1 s'/\Vals vs us/\cM As ss = .val rs ss1/\Step own.flatten G H own1.flatten G1 H1/\Fm X.kw pin G1 own1 σ H1 ss1/\dM X.kw G1 σ rs vs) X.xe s:=by
 refine thn (h.run pos pins s σ H (fun vs H1=>∃ rs ss1 G1 own1,cM As ss = .val rs ss1/\Step own.flatten G H own1.flatten G1 H1/\Fm X.kw pin G1 own1 σ H1 ss1/\dM X.kw G1 σ rs vs) I ⟨pin,G,own,ss,F,w,fun rs ss1 vs G1 own1 H1 e st F1 k=>⟨rs,ss1,G1,own1,e,st,F1,k⟩⟩) fun us s1 ⟨vs,H1,I1,r,rs,ss1,G1,own1,e,st,F1,k⟩=>?_
 exact ⟨vs,H1,rs,ss1,G1,own1,I1,r,e,st,F1,k⟩
end
end DL
namespace DL
open PySem PySem.Spec PyProof.Rows L2
section
variable {X:Cx} {W:WX} {e a b c:Expr} {A B C:AE} {pins:List (Addr×Obj)} {s:Shared} {σ:L2.St} {G H:Hp} {pin:L2.St} {own:List (List Addr)} {ss ss':List SD} {pos:Pos}
abbrev FL:=List D->Option (List D)
def Ih (X:Cx) (f:Value) (g:FL):Prop:=∀ (pins:List (Addr×Obj)) (s:Shared) (σ:L2.St) (G H:Hp) (xs:List V) (us:List Value) (ds l:List D),Inv X pins σ H s->Ex G H->Vals xs us->Av X.kw G H xs ds->g ds=some l ->
 wpAny (model X.prog X.w) X.A (call f us) (fun u' s'=>∃ p zs,Inv X pins σ (upd H p (.lst zs)) s'/\u' = .ref p/\H p=none/\au X.kw G zs l) X.xe s
theorem Ih.of {f:Value} {g:FL} {r:List V->Hp->VK->Prop} (h:CallR X f r) (k:∀ (G H:Hp) (xs:List V) (ds l:List D) (Q:VK),Ex G H->Av X.kw G H xs ds->g ds=some l->(∀ p zs,H p=none->au X.kw G zs l->Q (.ref p) (upd H p (.lst zs)))->r xs H Q):Ih X f g:=
 fun pins s σ G H xs us ds l I e ru t q=>by
  refine thn (h pins s σ H xs us (fun z H'=>∃ p zs,z = .ref p/\H'=upd H p (.lst zs)/\H p=none/\au X.kw G zs l) I ru (k G H xs ds l _ e t q fun p zs a r=>⟨p,zs,rfl,rfl,a,r⟩)) fun u' s' ⟨z,H',I',rz,p,zs,z1,z2,z3,z4⟩=>?_
  subst z1; subst z2
  exact ⟨p,zs,I',rz,z3,z4⟩
def ab0 (f g:FL):FL:=fun ds=>match f ds with
 | some d=>some d
 | none=>g ds
theorem Ih.or {f:Value} {g g':FL} (h:Ih X f g) (h':Ih X f g'):Ih X f (ab0 g g'):=fun pins s σ G H xs us ds d I e ru t q=>by
 unfold ab0 at q
 cases z:g ds with
 | some d'=>rw [z] at q; cases q; exact h pins s σ G H xs us ds _ I e ru t z
 | none=>rw [z] at q; exact h' pins s σ G H xs us ds d I e ru t q
def intsOf:List D->Option (List Int)
 | []=>some []
 | .int b :: l=>(intsOf l).map (b :: ·)
 | _=>none
def fTuple:FA
 | [.lst l]=>some (.tup l)
 | [.tup l]=>some (.tup l)
 | _=>none
end
end DL
namespace DL
open PySem PySem.Spec PyProof.Rows L2
theorem zW {k:Nat} {A:Around} (hr:Room k A):A.units+64 < cLine:=hr.units
theorem zX {k:Nat} {A:Around} (hr:Room k A):A.units+65 < cLine:=by have:=hr.un; omega
def MN (g:D->Option D):FnD
 | [.im a]=>match g a with
  | some d => .ret d [.im a]
  | none => .bad
 | _ => .bad
def Fj (g:D->D->Option D):FnD
 | [.im a, .im b]=>match g a b with
  | some d => .ret d [.im a, .im b]
  | none => .bad
 | _ => .bad
def JW (g:D->D->D->Option D):FnD
 | [.im a, .im b, .im c]=>match g a b c with
  | some d => .ret d [.im a, .im b, .im c]
  | none => .bad
 | _ => .bad
abbrev tR (n:Int):SD:=.ow true (.lst .im) (.lst [.int n])
def Ln (g:D->D->Int->Option (D×Int)):FnD
 | [.im r, .ow true (.lst .im) (.lst [.int n]), .im a]=>match g r a n with
  | some q => .ret q.1 [.im r,tR q.2, .im a]
  | none => .bad
 | _ => .bad
section
variable {ss:List SD}
theorem aa1 {g:D->Option D} (h:MN g ss ≠ .bad):ss.length=1:=by
 unfold MN at h; split at h
 ·rfl
 ·exact absurd rfl h
theorem aa2 {g:D->D->Option D} (h:Fj g ss ≠ .bad):ss.length=2:=by
 unfold Fj at h; split at h
 ·rfl
 ·exact absurd rfl h
theorem aa3 {g:D->D->D->Option D} (h:JW g ss ≠ .bad):ss.length=3:=by
 unfold JW at h; split at h
 ·rfl
 ·exact absurd rfl h
theorem YD {g:D->D->Int->Option (D×Int)} (h:Ln g ss ≠ .bad):ss.length=3:=by
 unfold Ln at h; split at h
 ·rfl
 ·exact absurd rfl h
variable {N:Nat} {B:AS}
theorem aa4 {g:D->Option D} (h:∀ a d,g a=some d->∃ n,runB N B n [.im a] = .ret d [.im a]):MN g ss ≠ .bad->∃ n,runB N B n ss=MN g ss:=fun z=>by
 unfold MN at z ⊢
 split at z
 ·rename_i a
  cases q:g a with
  | none=>simp only [q] at z; exact absurd rfl z
  | some d=>exact h a d q
 ·exact absurd rfl z
theorem aa5 {g:D->D->Option D} (h:∀ a b d,g a b=some d->∃ n,runB N B n [.im a, .im b] = .ret d [.im a, .im b]):Fj g ss ≠ .bad->∃ n,runB N B n ss=Fj g ss:=fun z=>by
 unfold Fj at z ⊢
 split at z
 ·rename_i a b
  cases q:g a b with
  | none=>simp only [q] at z; exact absurd rfl z
  | some d=>exact h a b d q
 ·exact absurd rfl z
theorem aa6 {g:D->D->D->Option D} (h:∀ a b c d,g a b c=some d->∃ n,runB N B n [.im a, .im b, .im c] = .ret d [.im a, .im b, .im c]):JW g ss ≠ .bad->∃ n,runB N B n ss=JW g ss:=fun z=>by
 unfold JW at z ⊢
 split at z
 ·rename_i a b c
  cases q:g a b c with
  | none=>simp only [q] at z; exact absurd rfl z
  | some d=>exact h a b c d q
 ·exact absurd rfl z
theorem YF {g:D->D->Int->Option (D×Int)} (h:∀ r a n d m,g r a n=some (d,m)->∃ k,runB N B k [.im r,tR n, .im a] = .ret d [.im r,tR m, .im a]):Ln g ss ≠ .bad->∃ n,runB N B n ss=Ln g ss:=fun z=>by
 unfold Ln at z ⊢
 split at z
 ·rename_i r n a
  cases q:g r a n with
  | none=>simp only [q] at z; exact absurd rfl z
  | some d=>exact h r a n d.1 d.2 q
 ·exact absurd rfl z
end
theorem aa7 {P:Program} {w:World} {K:PySem.W.Frag} {mg:Str->Option Value} {base:Heap} {k:Nat} {f:Addr} {fd:FuncData} {ps:List Str} {F:FnD} (h:∀ ss,F ss = .bad):FnOk P w K mg base (L2.CX P w) k f fd ps (pH ⟨K,w,mg⟩ mg F):=
 ⟨fun vs H Q E ⟨G,own,ss,_,w,_⟩=>by rw [h] at w; exact w.elim,fun A outer s H args us vs Q E _ _ _ _ ⟨G,own,ss,_,w,_⟩=>by rw [h] at w; exact w.elim⟩
end DL
namespace DL
open PySem PySem.Spec PyProof.Rows L2
mutual
theorem W4:∀ {a b:D} {k:NestedKey},nk a=some k->nk b=some k->a=b
 | .non,b,k,h1,h2=>by
  cases h1
  cases b with
  | non=>rfl
  | int i=>cases h2
  | str x=>cases h2
  | tup l=>unfold nk at h2; split at h2 <;> cases h2
  | _=>cases h2
 | .int i,b,k,h1,h2=>by
  cases h1
  cases b with
  | int j=>cases h2; rfl
  | non=>cases h2
  | str x=>cases h2
  | tup l=>unfold nk at h2; split at h2 <;> cases h2
  | _=>cases h2
 | .str x,b,k,h1,h2=>by
  cases h1
  cases b with
  | str y=>
   have e:(⟨y.toArray⟩:Str)=⟨x.toArray⟩:=by
    have h2':some (NestedKey.text ⟨y.toArray⟩)=some (NestedKey.text ⟨x.toArray⟩):=h2
    injection h2' with z; injection z
   injection e with e
   have:y=x:=by simpa using congrArg Array.toList e
   rw [this]
  | non=>cases h2
  | int x=>cases h2
  | tup l=>unfold nk at h2; split at h2 <;> cases h2
  | _=>cases h2
 | .tup l,b,k,h1,h2=>by
  unfold nk at h1
  split at h1
  ·rename_i ks hk
   cases h1
   cases b with
   | tup m=>
    unfold nk at h2
    split at h2
    ·rename_i ks' hk'
     have:ks'=ks:=by injection h2 with z; injection z
     subst this
     rw [Ur hk hk']
    ·cases h2
   | non=>cases h2
   | int x=>cases h2
   | str x=>cases h2
   | _=>cases h2
  ·cases h1
 | .bl _,_,_,h1,_=>nomatch h1
 | .lst _,_,_,h1,_=>nomatch h1
 | .iH _ _,_,_,h1,_=>nomatch h1
 | .fz _,_,_,h1,_=>nomatch h1
 | .ob _ _ _,_,_,h1,_=>nomatch h1
theorem Ur:∀ {a b:List D} {k:List NestedKey},JD a=some k->JD b=some k->a=b
 | [],b,k,h1,h2=>by
  cases h1
  cases b with
  | nil=>rfl
  | cons d l=>unfold JD at h2; split at h2 <;> cases h2
 | x :: l,b,k,h1,h2=>by
  unfold JD at h1
  split at h1
  ·rename_i k1 ks hk hks
   cases h1
   cases b with
   | nil=>cases h2
   | cons y m=>
    unfold JD at h2
    split at h2
    ·rename_i k2 ks2 hk2 aew
     have e:k2 :: ks2=k1 :: ks:=Option.some.inj h2
     injection e with e1 e2
     subst e1; subst e2
     rw [W4 hk hk2,Ur hks aew]
    ·cases h2
  ·cases h1
end
section
variable {X:Cx} {W:WX} {e a b c:Expr} {A B C:AE} {pins:List (Addr×Obj)} {s:Shared} {σ:L2.St} {G H:Hp} {pin:L2.St} {own:List (List Addr)} {ss ss':List SD} {pos:Pos}
mutual
theorem Vq (I:Inv X pins σ H s) (e:Ex G H):∀ {v:V} {d:D} {k:NestedKey} {u:Value},Rep X.kw G v d->nk d=some k->RelV v u->NestedIs s.heap k u
 | _,_,_,_, .non,h,r=>by cases h; cases r; exact .none
 | _,_,_,_, .int i,h,r=>by cases h; obtain ⟨t,rfl⟩:=r; exact .int _ _
 | _,_,_,_, .str x ok,h,r=>by cases h; obtain ⟨t,rfl⟩:=r; exact .text _ _
 | _,_,_,_, .tup a b,h,r=>by
  unfold nk at h
  split at h
  ·rename_i ks hk
   cases h
   cases r
   obtain ⟨its,r,⟨o,ho,hc,n,hd⟩,_⟩:=I.tuple (e.t a)
   exact .tup ho hc hd (by simpa using W6 I e b hk r)
  ·cases h
 | _,_,_,_, .bl _,h,_=>nomatch h
 | _,_,_,_, .lst _ _,h,_=>nomatch h
 | _,_,_,_, .fz _ _,h,_=>nomatch h
 | _,_,_,_, .ob _ _ _,h,_=>nomatch h
 | _,_,_,_, .xo _ _ _ _ _,h,_=>nomatch h
 | _,_,_,_, .dK _ _ _ _,h,_=>nomatch h
 | _,_,_,_, .dN _ _ _ _,h,_=>nomatch h
theorem W6 (I:Inv X pins σ H s) (e:Ex G H):∀ {vs:List V} {ds:List D} {ks:List NestedKey} {us:List Value},au X.kw G vs ds->JD ds=some ks->Vals vs us->NestedAll s.heap ks us
 | _,_,_,_, .nil,h,r=>by cases h; cases r; exact .nil
 | _,_,_,_, .cons a b,h,r=>by
  unfold JD at h
  split at h
  ·rename_i k ks hk hks
   cases h
   cases r with
   | cons r1 r2=>exact .cons (Vq I e a hk r1) (W6 I e b hks r2)
  ·cases h
end
def rH (kvs:List (D×D)) (k:D):Option D:=match kvs with
 | []=>none
 | (a,x) :: r=>if a=k then some x else rH r k
def tkey:D->Option NestedKey
 | .tup l=>match nk (.tup l) with
  | some k=>if k.depth≤8 then some k else none
  | none=>none
 | _=>none
theorem Us {d:D} {k:NestedKey} (h:tkey d=some k):nk d=some k/\k.depth≤8/\∃ l,d = .tup l:=by
 unfold tkey at h
 split at h
 ·split at h
  ·rename_i hk
   split at h
   ·rename_i c
    cases h
    exact ⟨hk,c,_,rfl⟩
   ·cases h
  ·cases h
 ·cases h
def O7:D->Option Key
 | .int i=>some (.inl i)
 | .str x=>some (.inr ⟨x.toArray⟩)
 | _=>none
theorem aa8 {d:D} {k:Key} (h:O7 d=some k):kD k=d:=by
 cases d <;> cases h
 ·rfl
 ·rfl
theorem aa9 (k:Key):O7 (kD k)=some k:=by
 cases k with
 | inl i=>rfl
 | inr x=>rfl
theorem YG {K:Kw} {d:D} {k:Key} {v:V} (h:O7 d=some k) (r:Rep K G v d):v=kV k:=by
 cases d with
 | int i=>cases h; cases r; rfl
 | str x=>cases h; cases r; rfl
 | _=>cases h
theorem atN:∀ {kvs:List (D×D)} {es:List (NestedKey×Addr×V)} {xs:List (NestedKey×Addr×Value)} {d:D} {k:NestedKey},(kvs.map fun q=>nk q.1)=(es.map fun e=>some e.1)->Paired Ol es xs->nk d=some k ->
  (rH kvs d=none/\atKey xs k=none)\/∃ (x:D) (j:Nat) (a:Addr) (v:V) (u:Value),rH kvs d=some x/\kvs[j]? = some (d,x)/\es[j]? = some (k,a,v)/\RelV v u/\atKey xs k=some (a,u)
 | [],es,xs,d,k,hk,r,hd=>by
  cases es with
  | nil=>cases r; exact .inl ⟨rfl,rfl⟩
  | cons e es=>cases hk
 | (d0,x0) :: kvs,[],xs,d,k,hk,r,hd=>nomatch hk
 | (d0,x0) :: kvs,(k0,a0,v0) :: es,xs,d,k,hk,r,hd=>by
  cases r with
  | @cons _ y _ ys hr ht=>
   obtain ⟨r1,r2,r3⟩:=hr
   obtain ⟨ky,ay,uy⟩:=y
   have r1:ky=k0:=r1
   have r2:ay=a0:=r2
   have r3:RelV v0 uy:=r3
   subst r1; subst r2
   rw [List.map_cons,List.map_cons] at hk
   injection hk with hk1 hk2
   have hk1:nk d0=some ky:=hk1
   by_cases c:d0=d
   ·subst c
    rw [hk1] at hd; cases hd
    refine .inr ⟨x0,0,ay,v0,uy,by simp [rH],rfl,rfl,r3,?_⟩
    unfold atKey; simp
   ·have ck:ky ≠ k:=fun z=>c (W4 hk1 (z ▸ hd))
    have e1:atKey ((ky,ay,uy) :: ys) k=atKey ys k:=by unfold atKey; simp [ck]
    have e2:rH ((d0,x0) :: kvs) d=rH kvs d:=by simp [rH,c]
    rw [e1,e2]
    rcases atN hk2 ht hd with z | ⟨x,j,a,v,u,z1,z2,z3,z4,z5⟩
    ·exact .inl z
    ·exact .inr ⟨x,j+1,a,v,u,z1,by simpa using z2,by simpa using z3,z4,z5⟩
theorem W7 {es:List (NestedKey×Addr×V)} {xs:List (NestedKey×Addr×Value)} (p:Paired Ol es xs):xs.map (·.1)=es.map (·.1):=by
 induction p with
 | nil=>rfl
 | cons h t ih=>rw [List.map_cons,List.map_cons,h.1,ih]
theorem Oa (I:Inv X pins σ H s) (e:Ex G H):∀ {kvs:List (D×D)} {es:List (NestedKey×Addr×V)} {xs:List (NestedKey×Addr×Value)},(∀ x∈es,x.1.depth≤8)->(kvs.map fun q=>nk q.1)=(es.map fun e=>some e.1)->Paired Ol es xs->au X.kw G (es.map fun e=>V.ref e.2.1) (kvs.map (·.1))->∀ x∈xs,(nestedKind X.prog X.w).is s.heap x.1 x.2.1
 | [],es,xs,_,h,r,_,x,hx=>by
  cases es with
  | nil=>cases r; cases hx
  | cons _ _=>cases h
 | _ :: _,[],_,_,h,_,_,_,_=>nomatch h
 | (d0,x0) :: kvs,(k0,a0,v0) :: es,_,hd,h, .cons (b:=y) hr ht, .cons p1 p2,x,hx=>by
  rw [List.map_cons,List.map_cons] at h
  injection h with h1 h2
  rcases List.mem_cons.mp hx with z | z
  ·subst z
   obtain ⟨r1,r2,_⟩:=hr
   show NestedIs s.heap x.1 (.ref x.2.1)/\x.1.depth≤8
   rw [r1,r2]
   exact ⟨Vq I e p1 h1 rfl,hd _ List.mem_cons_self⟩
  ·exact Oa I e (fun x hx=>hd x (List.mem_cons_of_mem _ hx)) h2 ht p2 x z
end
end DL
namespace DL
open PySem PySem.Spec PyProof.Rows L2
section
variable {X:Cx} {W:WX} {e a b c:Expr} {A B C:AE} {pins:List (Addr×Obj)} {s:Shared} {σ:L2.St} {G H:Hp} {pin:L2.St} {own:List (List Addr)} {ss ss':List SD} {pos:Pos}
theorem Top.ZK {K:Kw} {v:V} {kvs:List (D×D)} (t:Top K G H v (.iH true kvs)) (e:Ex G H):∃ p es,v = .ref p/\Rd H p (NDO K.w p es)/\(kvs.map fun q=>nk q.1)=(es.map fun e=>some e.1)/\au K G (es.map fun e=>V.ref e.2.1) (kvs.map (·.1))/\au K G (es.map (·.2.2)) (kvs.map (·.2)):=by
 cases t with
 | im r=>cases r with | dN a k c b=>exact ⟨_,_,rfl,e.rd a,k,c,b⟩
 | dN a k c b=>exact ⟨_,_,rfl, .inl a,k,c,b⟩
theorem Top.ZL {K:Kw} {v:V} {kvs:List (D×D)} (t:Top K G H v (.iH false kvs)) (e:Ex G H):∃ p ks,v = .ref p/\Rd H p (.dK ks)/\kvs.map (·.1)=ks.map (fun k=>kD k.1)/\au K G (ks.map fun k=>kV k.1) (kvs.map (·.1))/\au K G (ks.map (·.2)) (kvs.map (·.2)):=by
 cases t with
 | im r=>cases r with | dK a k c b=>exact ⟨_,_,rfl,e.rd a,k,c,b⟩
 | dK a k c b=>exact ⟨_,_,rfl, .inl a,k,c,b⟩
theorem W8 {p:Addr} {es:List (NestedKey×Addr×V)} {kvs:List (D×D)} (I:Inv X pins σ H s) (e:Ex G H) (hp:Rd H p (NDO X.w p es)) (hk:(kvs.map fun q=>nk q.1)=(es.map fun e=>some e.1)) (rk:au X.kw G (es.map fun e=>V.ref e.2.1) (kvs.map (·.1))) :
  NDH X.w p es s.heap/\∃ xs,Paired Ol es xs/\s.heap.DictOfH (nestedKind X.prog X.w) p xs:=by
 have N:NDH X.w p es s.heap:=(hp.ok I.hok).1
 refine ⟨N,?_⟩
 obtain ⟨n1,n2,n3,n4,xs,r,o,es',ep,h1,h2,h3,h4⟩:=N
 exact ⟨xs,r,o,es',ep,h1,h2,h3,h4,Oa I e n4 hk r rk,by rw [W7 r]; exact n3⟩
theorem nest_room {A:Around} (hu:A.units+64 < cLine):(nestedKind X.prog X.w).room A.in1:=by
 show A.units+1+8 < cLine
 omega
def Lp:F2
 | .iH true l,k=>(tkey k).bind fun _=>rH l k
 | _,_=>none
def Lq:F2
 | .iH false l,k=>(O7 k).bind fun _=>rH l k
 | _,_=>none
theorem O8 {a b:Expr} {o i:Value} {T id:String} {Q:Value->Shared->Prop} {A:Around} {E:Value->Shared->Prop} (hl:typeLookup (.type T) "__getitem__" = pure (some (.builtin id))) (hs:PlainIx b) (hT:s.TypeIs o T) (h:wpAny (model X.prog X.w) A (getItem o i) Q E s) :
  wpAny (model X.prog X.w) A (subscriptTail a b o i) Q E s:=by
 unfold subscriptTail
 refine wpAny_bind ?_
 rw [getitemInPython_of_ne hT.not_modules]
 refine wpAny_bind (wpAny_specialOf hT hl ?_)
 have fin:wpAny (model X.prog X.w) A (subscripted b false o i) (fun r s₃=>wpAny (model X.prog X.w) A (letTemporaryGo a o r >>= fun _=>pure r) Q E s₃) E s:=by
  rw [hs o i]
  exact wpAny_operating (wpAny_mono h (fun r s₃ h₃=>wpAny_bind (wpAny_letTemporaryGo (wpAny_pure h₃))) fun _ _ x=>x)
 first
  | exact wpAny_pure (wpAny_bind fin)
  | exact wpAny_bind (wpAny_pure (wpAny_bind fin))
  | exact wpAny_bind fin
theorem YH {K:Kw} {d:D} {k:NestedKey} {v:V} (h:tkey d=some k) (t:Top K G H v d):∃ q,v = .ref q/\Rep K G (.ref q) d:=by
 obtain ⟨_,_,l,rfl⟩:=Us h
 obtain ⟨q,xs,rfl,a,b⟩:=t.Jg
 exact ⟨q,rfl, .tup a b⟩
theorem ab1 (hu:X.A.units+64 < cLine):wC X Lp:=fun a b hs pins s σ G H x y u v d1 d2 d I e ru rv t1 t2 h=>by
 unfold Lp at h
 split at h
 ·obtain ⟨k,hk,hg⟩:=dY h
  obtain ⟨p,es,rfl,hp,k1,k2,k3⟩:=t1.ZK e
  obtain ⟨q,rfl,rq⟩:=YH hk t2
  cases ru; cases rv
  obtain ⟨N,xs,r,dd⟩:=W8 I e hp k1 k2
  obtain ⟨nk1,nk2,_⟩:=Us hk
  rcases atN k1 r nk1 with ⟨z,_⟩ | ⟨x,j,a,v,u,z1,z2,z3,z4,z5⟩
  ·rw [z] at hg; cases hg
  ·rw [z1] at hg; cases hg
   refine O8 PySem.F.slot_dict_getitem.lookup hs dd.typeIs (wpAny_getItem_heap (nest_room hu) ⟨Vq I e rq nk1 rfl,nk2⟩ dd z5 ?_)
   obtain ⟨v',w1,w2⟩:=k3.get (i:=j) (d:=d) (by rw [List.getElem?_map,z2]; rfl)
   rw [List.getElem?_map,z3] at w1
   have w1:v=v':=Option.some.inj w1
   subst w1
   exact ⟨v,G,H,I.tok _,z4,aU.refl e,w2⟩
 ·cases h
theorem ab2:∀ {kvs:List (D×D)} {ks:List (Key×V)} {d:D} {k:Key},kvs.map (·.1)=ks.map (fun k=>kD k.1)->O7 d=some k->(rH kvs d=none/\valV ks k=none)\/∃ (x:D) (j:Nat) (v:V),rH kvs d=some x/\kvs[j]? = some (d,x)/\ks[j]? = some (k,v)/\valV ks k=some v
 | [],[],d,k,_,_ => .inl ⟨rfl,rfl⟩
 | [],_ :: _,_,_,h,_=>nomatch h
 | _ :: _,[],_,_,h,_=>nomatch h
 | (d0,x0) :: kvs,(k0,v0) :: ks,d,k,h,hd=>by
  rw [List.map_cons,List.map_cons] at h
  injection h with h1 h2
  have h1:d0=kD k0:=h1
  by_cases c:d0=d
  ·have c':k0=k:=by
    have:=aa9 k0
    rw [<- h1,c,hd] at this; exact (Option.some.inj this).symm
   subst c; subst c'
   exact .inr ⟨x0,0,v0,by simp [rH],rfl,rfl,by simp [valV]⟩
  ·have c':k0 ≠ k:=fun z=>c (by rw [h1,z,aa8 hd])
   have e1:rH ((d0,x0) :: kvs) d=rH kvs d:=by simp [rH,c]
   have e2:valV ((k0,v0) :: ks) k=valV ks k:=by simp [valV,c']
   rw [e1,e2]
   rcases ab2 h2 hd with z | ⟨x,j,v,z1,z2,z3,z4⟩
   ·exact .inl z
   ·exact .inr ⟨x,j+1,v,z1,by simpa using z2,by simpa using z3,z4⟩
theorem ab3 (hu:X.A.units+64 < cLine):wC X Lq:=fun a b hs pins s σ G H x y u v d1 d2 d I e ru rv t1 t2 h=>by
 unfold Lq at h
 split at h
 ·obtain ⟨k,hk,hg⟩:=dY h
  obtain ⟨p,ks,rfl,hp,k1,kr,k2⟩:=t1.ZL e
  have ey:y=kV k:=by
   cases t2 with
   | im r=>exact YG hk r
   | _=>cases hk
  subst ey
  cases ru
  rcases ab2 k1 hk with ⟨z,_⟩ | ⟨x,j,w,z1,z2,z3,z4⟩
  ·rw [z] at hg; cases hg
  ·rw [z1] at hg; cases hg
   have g:DGet H p (kV k) (some w):=.inl ⟨ks,k,hp,rfl,z4.symm⟩
   refine O8 PySem.F.slot_dict_getitem.lookup hs (dict_typeIs I g) (d_getItem (by omega) I g rv fun w' s' I' rw'=>?_)
   obtain ⟨v',w1,w2⟩:=k2.get (i:=j) (d:=d) (by rw [List.getElem?_map,z2]; rfl)
   rw [List.getElem?_map,z3] at w1
   have w1:w=v':=Option.some.inj w1
   subst w1
   exact ⟨w,G,H,I',rw',aU.refl e,w2⟩
 ·cases h
def gJ:F2:=dO Mv (dO Lp Lq)
theorem qF (hu:X.A.units+64 < cLine):wC X gJ:=ac2.or ((ab1 hu).or (ab3 hu))
end
end DL
namespace DL
open PySem PySem.Spec PyProof.Rows L2
end DL
namespace DL
open PySem PySem.Spec PyProof.Rows L2
section
variable {X:Cx} {W:WX} {st:Stmt} {e a b c:Expr} {A B C:AE} {pins:List (Addr×Obj)} {s:Shared} {σ:L2.St} {G H:Hp} {pin:L2.St} {own:List (List Addr)} {ss ss':List SD} {pos:Pos}
theorem bF.flat {K:Kw} {G H:Hp} {vs:List V} {ds:List D} {f:List Addr} (h:bF K G H .im vs ds f):au K G vs ds/\f=[]:=h.reps
end
end DL
namespace DL
open PySem PySem.Spec PyProof.Rows L2
def KeyAt (g:Heap) (x:NestedKey) (b:Addr):Prop:=NestedIs g x (.ref b)/\x.depth≤8
theorem KeyAt.move {g g':Heap} {x:NestedKey} {b:Addr} (hx:KeyAt g x b) (st:∀ c ob us m,g.get? c=some ob->ob.data = .seq us m->g'.get? c=some ob):KeyAt g' x b:=⟨NestedIs.at st _ _ hx.1,hx.2⟩
theorem KeyAt.tup {g:Heap} {x:NestedKey} {b:Addr} (hx:KeyAt g x b):∃ ob us m ks,g.get? b=some ob/\ob.cls = .type "tuple" /\ ob.data = .seq us m/\x = .tup ks/\NestedAll g ks us.toList:=by
 obtain ⟨h1,h2⟩:=hx
 cases h1 with
 | tup a1 a2 a3 a4=>exact ⟨_,_,_,_,a1,a2,a3,rfl,a4⟩
section
variable {P:Program} {w:World} {A:Around} {E:Value->Shared->Prop}
theorem KeyAt.quiet {x:NestedKey} {b:Addr} {z:Shared} {Q:Bool->Shared->Prop} (hx:KeyAt z.heap x b) (q:Q true z):wpAny (model P w) A (eqIsQuiet 8 (.ref b)) Q E z:=quiet_key _ _ _ _ hx.1 hx.2 _ _ _ q
def ab4 (w:World) (L:List (Addr×NestedKey)):List (Int×Value):=L.map fun q=>(q.2.hash w,Value.ref q.1)
theorem YJ (L:List (Addr×NestedKey)):(ab4 w L).length=L.length:=List.length_map ..
structure Jo (w:World) (g:Heap) (a:Addr) (L:List (Addr×NestedKey)) (es:Array (Int×Value)) (ep:Nat) (t:SetTable):Prop where
 ob:∃ o,g.get? a=some o/\o.ExactSet/\o.data = .set es ep t
 row:es.toList=ab4 w L
 tab:TabOk t (L.map fun q=>q.2.hash w)
 one:(L.map (·.2)).Nodup
 key:∀ q∈L,KeyAt g q.2 q.1
 room:L.length * 5 < t.mask * 3
 few:L.length < 64
section
variable {g:Heap} {a:Addr} {L:List (Addr×NestedKey)} {es:Array (Int×Value)} {ep:Nat} {t:SetTable}
theorem Jo.sz (R:Jo w g a L es ep t):es.size=L.length:=by rw [<- Array.length_toList,R.row,YJ]
end
end
end DL
namespace DL
open PySem PySem.Spec PyProof.Rows L2
structure Od (ks:List (Addr×NestedKey)) (i:Nat) (L:List (Addr×NestedKey)):Prop where
 from':∀ q∈L,q∈ks.take i
 has:∀ q∈ks.take i,q.2∈L.map (·.2)
 num:L.length≤i
theorem zY {α:Type} {l:List α} {i:Nat} {x:α} (h:l[i]? = some x):l.take (i+1)=l.take i++[x]:=by rw [List.take_succ,h]; rfl
theorem Od.next {ks L L':List (Addr×NestedKey)} {i:Nat} {q:Addr×NestedKey} (g:Od ks i L) (h:ks[i]? = some q) (c1:q.2∈L.map (·.2)->L'=L) (c2:q.2 ∉ L.map (·.2)->L'.Perm (q :: L)):Od ks (i+1) L':=by
 rcases Classical.em (q.2∈L.map (·.2)) with c | c
 ·rw [c1 c]
  refine ⟨fun p hp=>?_,fun p hp=>?_,Nat.le_succ_of_le g.num⟩
  ·rw [zY h]; exact List.mem_append_left _ (g.from' p hp)
  ·rw [zY h] at hp
   rcases List.mem_append.mp hp with k | k
   ·exact g.has p k
   ·cases List.mem_singleton.mp k; exact c
 ·have pm:=c2 c
  refine ⟨fun p hp=>?_,fun p hp=>?_,?_⟩
  ·rw [zY h]
   rcases List.mem_cons.mp (pm.mem_iff.mp hp) with k | k
   ·rw [k]; exact List.mem_append_right _ (List.mem_singleton.mpr rfl)
   ·exact List.mem_append_left _ (g.from' p k)
  ·rw [(pm.map (·.2)).mem_iff,List.map_cons]
   rw [zY h] at hp
   rcases List.mem_append.mp hp with k | k
   ·exact List.mem_cons_of_mem _ (g.has p k)
   ·cases List.mem_singleton.mp k; exact List.mem_cons_self
  ·rw [pm.length_eq,List.length_cons]; exact Nat.succ_le_succ g.num
section
variable {P:Program} {w:World} {A:Around} {E:Value->Shared->Prop}
theorem KeyAt.keep {g g':Heap} {x:NestedKey} {b:Addr} (hx:KeyAt g x b) (st:∀ c o,g.get? c=some o->g'.get? c=some o):KeyAt g' x b:=hx.move fun c o _ _ h _=>st c o h
theorem Jo.keep {g g':Heap} {a:Addr} {L:List (Addr×NestedKey)} {es:Array (Int×Value)} {ep:Nat} {t:SetTable} (R:Jo w g a L es ep t) (ha:∀ o,g.get? a=some o->g'.get? a=some o) (hk:∀ q∈L,KeyAt g' q.2 q.1):Jo w g' a L es ep t:=by
 obtain ⟨o,ho,r⟩:=R.ob
 exact ⟨⟨o,ha o ho,r⟩,R.row,R.tab,R.one,hk,R.room,R.few⟩
def ZM (w:World) (ks:List (Addr×NestedKey)) (g0 g:Heap):Prop:=(∃ L es ep t,Jo w g g0.objs.size L es ep t/\Od ks ks.length L)/\∀ c o,g0.get? c=some o->g.get? c=some o
theorem Fl {α:Type} [DecidableEq α]:∀ (n:Nat) (l:List α),l.length≤n->l.eraseDups.Nodup/\∀ x,x∈l.eraseDups↔x∈l
 | _,[],_=>⟨List.nodup_nil,fun x=>Iff.rfl⟩
 | 0,a :: l,h=>absurd h (by simp)
 | n+1,a :: l,h=>by
  rw [List.eraseDups_cons]
  obtain ⟨h1,h2⟩:=Fl n (l.filter fun b=>!b == a) (Nat.le_trans (List.length_filter_le _ _) (by simpa using h))
  refine ⟨List.nodup_cons.mpr ⟨fun hm=>?_,h1⟩,fun x=>?_⟩
  ·have:=(h2 a).mp hm
   rw [List.mem_filter] at this
   simp at this
  ·rw [List.mem_cons,List.mem_cons,h2,List.mem_filter]
   by_cases e:x=a
   ·simp [e]
   ·simp [e]
theorem YK {α:Type}:∀ {l m:List α},l.Nodup->m.Nodup->(∀ x,x∈l↔x∈m)->l.length=m.length:=by
 intro l m h1 h2 h3
 exact ((List.perm_ext_iff_of_nodup h1 h2).mpr h3).length_eq
theorem ZM.len {ks:List (Addr×NestedKey)} {g0 g:Heap} (h:ZM w ks g0 g):∃ L es ep t,Jo w g g0.objs.size L es ep t/\L.length=(ks.map (·.2)).eraseDups.length:=by
 obtain ⟨⟨L,es,ep,t,RS,so⟩,_⟩:=h
 refine ⟨L,es,ep,t,RS,?_⟩
 obtain ⟨h1,h2⟩:=Fl _ (ks.map (·.2)) (Nat.le_refl _)
 rw [<- YK RS.one h1 fun x=>?_,List.length_map]
 rw [h2]
 constructor
 ·intro hx
  obtain ⟨q,hq,rfl⟩:=List.mem_map.mp hx
  exact List.mem_map.mpr ⟨q,List.mem_of_mem_take (so.from' q hq),rfl⟩
 ·intro hx
  obtain ⟨q,hq,rfl⟩:=List.mem_map.mp hx
  exact so.has q (by rw [List.take_length]; exact hq)
end
end DL
namespace DL
open PySem PySem.Spec PyProof.Rows L2
end DL
namespace DL
open PySem PySem.Spec PyProof.Rows L2
section
variable {X:Cx} {W:WX} {st:Stmt} {e a b c:Expr} {A B C:AE} {pins:List (Addr×Obj)} {s:Shared} {σ:L2.St} {G H:Hp} {pin:L2.St} {own:List (List Addr)} {ss ss':List SD} {pos:Pos}
def Vr:FA
 | [.iH _ l]=>some (.int l.length)
 | _=>none
theorem RQ:sizeLine < 2 ^ 63:=by decide
theorem abb:CallD X (.builtin "len") Vr:=fun pins s σ G H xs us ds d I e ru t h=>by
 unfold Vr at h
 split at h
 ·rename_i tt l
  cases h
  obtain ⟨x,rfl,t1⟩:=t.one
  cases tt with
  | true=>
   obtain ⟨p,es,rfl,hp,k1,k2,k3⟩:=t1.ZK e
   rw [Vals.ref1 ru]
   obtain ⟨N,xs,r,dd⟩:=W8 I e hp k1 k2
   have hl:es.length=l.length:=by have:=congrArg List.length k1; simpa using this.symm
   have hx:es.length=xs.length:=Paired.length r
   have h1:=N.1
   have h2:=RQ
   refine call_len_dictH N.2.1 dd (by omega) ⟨.int (xs.length:Nat),G,H,I.tok _,⟨_,rfl⟩,aU.refl e,?_⟩
   rw [<- hx,hl]; exact .int _
  | false=>
   obtain ⟨p,ks,rfl,hp,k1,kr,k2⟩:=t1.ZL e
   rw [Vals.ref1 ru]
   have hl:ks.length=l.length:=by have:=congrArg List.length k1; simpa using this.symm
   exact d_len I hp fun t s' I'=>⟨.int (ks.length:Nat),G,H,I',⟨t,rfl⟩,aU.refl e,by rw [hl]; exact .int _⟩
 ·cases h
def iI:FA:=Yp Yr Vr
theorem yE:CallD X (.builtin "len") iI:=abO.or abb
end
end DL
namespace DL
open PySem PySem.Spec PyProof.Rows L2
section
variable {ss s:List SD} {r:Rv} {d:D} {b:Bool} {A B C E:AE} {n:Nat}
@[simp] theorem rJ {k:Rv->List SD->Out}:(Out.val r s).bind k=k r s:=rfl
@[simp] theorem wH {k:Bool->List SD->Out}:(Out.val (.im (.bl b)) s).bindB k=k b s:=rfl
@[simp] theorem aeW:Out.ofD (some d) s = .val (.im d) s:=rfl
@[simp] theorem afd:Rv.get (.im d) s=some d:=rfl
@[simp] theorem afe {i:Nat}:Rv.get (.sl i) s=(s[i]?).bind SD.get:=rfl
@[simp] theorem aex:SD.get (.im d)=some d:=rfl
@[simp] theorem aeX {io:Bool}:SD.get (.ow io (.lst .im) d)=some d:=rfl
@[simp] theorem aeY {io:Bool}:SD.get (.ow io (.dK .im) d)=some d:=rfl
@[simp] theorem aeZ {io:Bool}:SD.get (.ow io (.dN .im) d)=some d:=rfl
@[simp] theorem Cv {k:Rv->List SD->cA}:(Out.val r s).toS k=k r s:=rfl
@[simp] theorem Ii {k:Bool->List SD->cA}:(Out.val (.im (.bl b)) s).toB k=k b s:=rfl
@[simp] theorem rZ {k:List Rv->List SD->Out} {rs:List Rv}:(xH.val rs s).bind k=k rs s:=rfl
@[simp] theorem agE:Rv.Iw (.im d)=some d:=rfl
@[simp] theorem aey:gets [] s=some []:=rfl
@[simp] theorem MP {rs:List Rv}:gets (r :: rs) s=(r.get s).bind fun d=>(gets rs s).bind fun ds=>some (d :: ds):=by
 show (match r.get s,gets rs s with | some d,some ds=>some (d :: ds) | _,_=>none)=_
 cases r.get s <;> cases gets rs s <;> rfl
@[simp] theorem ae0:cM [] s = .val [] s:=rfl
theorem Jp {A:AE} {As:List AE}:cM (A :: As) s=match A s with
  | .bad => .bad
  | .exc c fs s => .exc c fs s
  | .val r s=>match cM As s with
   | .bad => .bad
   | .exc c fs s' => .exc c fs s'
   | .val rs s' => .val (r :: rs) s':=rfl
@[simp] theorem afg:cA.JT (some s) = .nx s:=rfl
theorem Ut {i:Nat} (h:ss[i]? = some (.im d)):ak i ss = .val (.im d) ss:=by unfold ak; rw [h]
theorem Uu {i:Nat} {io:Bool} {sh:Sh} (h:ss[i]? = some (.ow io sh d)):ak i ss = .val (.sl i) ss:=by unfold ak; rw [h]
@[simp] theorem afh:aC d s = .val (.im d) s:=rfl
@[simp] theorem Uv:jw A s=(A s).bindB fun b s1 => .val (.im (.bl (!b))) s1:=rfl
@[simp] theorem Uw:u9 A B s=(A s).bindB fun b s1=>if b then B s1 else .val (.im (.bl false)) s1:=rfl
@[simp] theorem O9:oA A B s=(A s).bindB fun b s1=>if b then .val (.im (.bl true)) s1 else B s1:=rfl
@[simp] theorem ae1:aer C A B s=(C s).bindB fun b s1=>if b then A s1 else B s1:=rfl
@[simp] theorem Ux {f:F2}:aD f A B s=(A s).bind fun r1 s1=>(B s1).bind fun r2 s2=>Out.ofD ((r1.get s2).bind fun d1=>(r2.get s2).bind fun d2=>f d1 d2) s2:=rfl
@[simp] theorem ab5 {g:FA} {As:List AE}:aFn g As s=(cM As s).bind fun rs s=>Out.ofD ((gets rs s).bind g) s:=rfl
@[simp] theorem Pa {F:FnD} {As:List AE}:aCall F As s=(cM As s).bind (Dj F):=rfl
@[simp] theorem Vs {j:Nat} {F:FnD} {As:List AE}:mO j F As s=(cM As s).bind (yP j F):=rfl
@[simp] theorem Uy {n:Nat}:gH A n s=(A s).toS fun r s=>match r with | .im d => .rt d s | .sl _ => .bad:=rfl
@[simp] theorem Gg {S T:AS}:jh C S T n s=(C s).toB fun b s=>if b then S n s else T n s:=rfl
@[simp] theorem Uz {i:Nat}:lF i A n s=(A s).toS fun r s=>match r with | .im d=>qX i d s | .sl _ => .bad:=rfl
@[simp] theorem vp {S T:AS}:cJ S T n s=match S n s with | .nx s1=>T n s1 | o=>o:=rfl
@[simp] theorem aez:fU n s = .nx s:=rfl
@[simp] theorem ae2:Ys n s = .bk s:=rfl
@[simp] theorem ad0:gQ []=true:=rfl
@[simp] theorem aeA {rs:List Rv}:gQ (.im d :: rs)=gQ rs:=rfl
@[simp] theorem UG {F:FnD} {rs:List Rv}:Dj F rs s=match gets rs s with
 | none => .bad
 | some ds=>match F (ds.map .im) with
  | .bad => .bad
  | .ret d _=>if (gQ rs || D.nm d)=true then .val (.im d) s else .bad
  | .exc c fs _=>if (gQ rs || fs.all fun p=>D.nm p.2)=true then .exc c fs s else .bad:=rfl
@[simp] theorem ad1 {f g:F2}:abI f g A B C s=(A s).bind fun r1 s1=>(B s1).bind fun r2 s2=>(Out.ofD ((r1.get s2).bind fun d1=>(r2.get s2).bind fun d2=>f d1 d2) s2).bindB fun k s3=>if k then (C s3).bind fun r3 s4=>Out.ofD ((r2.get s4).bind fun d2=>(r3.get s4).bind fun d3=>g d2 d3) s4 else .val (.im (.bl false)) s3:=rfl
@[simp] theorem abd {T:Ty}:oF T A s=(A s).bind fun r s=>Out.ofD ((r.get s).bind fun d=>(D.zL T d).map .bl) s:=rfl
@[simp] theorem aeB {T U:Ty}:ac3 T U A s=(A s).bind fun r s=>Out.ofD ((r.get s).bind fun d=>(match D.zL T d,D.zL U d with | some x,some y=>some (x || y) | _,_=>none).map .bl) s:=rfl
@[simp] theorem afi {g:D->Option D} {a:D}:MN g [.im a]=match g a with | some d => .ret d [.im a] | none => .bad:=rfl
@[simp] theorem afj {g:D->D->Option D} {a b:D}:Fj g [.im a, .im b]=match g a b with | some d => .ret d [.im a, .im b] | none => .bad:=rfl
@[simp] theorem afk {g:D->D->D->Option D} {a b c:D}:JW g [.im a, .im b, .im c]=match g a b c with | some d => .ret d [.im a, .im b, .im c] | none => .bad:=rfl
end
end DL
namespace DL
open PySem PySem.Spec PyProof.Rows L2
def Pu (A:AE) (ss:List SD) (d:D):Prop:=A ss = .val (.im d) ss
def Aa (A:AE) (ss:List SD) (d:D):Prop:=∃ r,A ss = .val r ss/\r.get ss=some d
section
variable {ss s:List SD} {d a b x:D} {A B C E:AE} {n:Nat}
theorem Pu.rd (h:Pu A ss d):Aa A ss d:=⟨.im d,h,rfl⟩
theorem Gh {i:Nat} (h:ss[i]? = some (.im d)):Pu (ak i) ss d:=Ut h
theorem bR {i:Nat} (h:(ss[i]?).bind SD.get=some d):Aa (ak i) ss d:=by
 cases q:ss[i]? with
 | none=>rw [q] at h; cases h
 | some sd=>
  cases sd with
  | un=>rw [q] at h; cases h
  | im d'=>rw [q] at h; cases h; exact (Gh q).rd
  | ow io sh d'=>exact ⟨.sl i,Uu q,h⟩
theorem eV:Pu (aC d) ss d:=rfl
theorem bL {f:F2} (ha:Aa A ss a) (hb:Aa B ss b) (h:f a b=some d):Pu (aD f A B) ss d:=by
 obtain ⟨r1,e1,g1⟩:=ha
 obtain ⟨r2,e2,g2⟩:=hb
 unfold Pu
 rw [Ux,e1,rJ,e2,rJ,g1,Option.bind_some,g2,Option.bind_some,h]; rfl
def Dm:List AE->List SD->List D->Prop
 | [],_,ds=>ds=[]
 | A :: As,ss,ds=>∃ d r,ds=d :: r/\Pu A ss d/\Dm As ss r
def Dq:List AE->List SD->List D->Prop
 | [],_,ds=>ds=[]
 | A :: As,ss,ds=>∃ d r,ds=d :: r/\Aa A ss d/\Dq As ss r
theorem M4:Dm [] ss []:=rfl
theorem tU {As:List AE} {ds:List D} (h:Pu A ss d) (t:Dm As ss ds):Dm (A :: As) ss (d :: ds):=⟨d,ds,rfl,h,t⟩
theorem M5:Dq [] ss []:=rfl
theorem JX {As:List AE} {ds:List D} (h:Aa A ss d) (t:Dq As ss ds):Dq (A :: As) ss (d :: ds):=⟨d,ds,rfl,h,t⟩
theorem Dm.ev:∀ {As:List AE} {ds:List D},Dm As ss ds->cM As ss = .val (ds.map .im) ss
 | [],_,h=>by cases h; rfl
 | A :: As,_,⟨d,r,e,h,t⟩=>by
  subst e
  rw [Jp,show A ss=_ from h]
  simp only [t.ev]
  rfl
theorem Jq:∀ ds:List D,gets (ds.map .im) ss=some ds
 | []=>rfl
 | d :: ds=>by rw [List.map_cons,MP,Jq ds]; rfl
theorem Gi:∀ ds:List D,gQ (ds.map .im)=true
 | []=>rfl
 | d :: ds=>Gi ds
theorem Dq.ev:∀ {As:List AE} {ds:List D},Dq As ss ds->∃ rs,cM As ss = .val rs ss/\gets rs ss=some ds
 | [],_,h=>by cases h; exact ⟨[],rfl,rfl⟩
 | A :: As,_,⟨d,r,e,⟨v,h,g⟩,t⟩=>by
  subst e
  obtain ⟨rs,e1,e2⟩:=t.ev
  refine ⟨v :: rs,?_,?_⟩
  ·rw [Jp,h]; simp only [e1]
  ·rw [MP,g,e2]; rfl
theorem adb {g:FA} {As:List AE} {ds:List D} (h:Dq As ss ds) (hg:g ds=some d):Pu (aFn g As) ss d:=by
 obtain ⟨rs,e1,e2⟩:=h.ev
 unfold Pu
 rw [ab5,e1,rZ,e2,Option.bind_some,hg]; rfl
theorem jY {g:FA} (h:Aa A ss a) (hg:g [a]=some d):Pu (aFn g [A]) ss d:=adb (JX h M5) hg
theorem UJ {F:FnD} {As:List AE} {ds:List D} {z:List SD} (h:Dm As ss ds) (hF:F (ds.map .im) = .ret d z):Pu (aCall F As) ss d:=by
 unfold Pu
 rw [Pa,h.ev,rZ,UG,Jq]
 simp only [hF,Gi,Bool.true_or,if_true]
theorem abe {g:D->D->Option D} (h:g a b=some d):Fj g ([a,b].map .im) = .ret d [.im a, .im b]:=by
 show (match g a b with | some d=>FP.ret d [.im a, .im b] | none => .bad)=_
 rw [h]
theorem abf {g:D->D->D->Option D} {c:D} (h:g a b c=some d):JW g ([a,b,c].map .im) = .ret d [.im a, .im b, .im c]:=by
 show (match g a b c with | some d=>FP.ret d [.im a, .im b, .im c] | none => .bad)=_
 rw [h]
theorem YL {g:D->D->Option D} (ha:Pu A ss a) (hb:Pu B ss b) (h:g a b=some d):Pu (aCall (Fj g) [A,B]) ss d:=UJ (tU ha (tU hb M4)) (abe h)
theorem YM {g:D->D->D->Option D} {c:D} (ha:Pu A ss a) (hb:Pu B ss b) (hc:Pu C ss c) (h:g a b c=some d):Pu (aCall (JW g) [A,B,C]) ss d:=UJ (tU ha (tU hb (tU hc M4))) (abf h)
theorem Pb {p:Bool} (h:Pu A ss (.bl p)):Pu (jw A) ss (.bl (!p)):=by unfold Pu; rw [Uv,show A ss=_ from h]; rfl
theorem ZP {p q:Bool} (h:Pu A ss (.bl p)) (h2:p=false->Pu B ss (.bl q)):Pu (oA A B) ss (.bl (p || q)):=by
 unfold Pu
 rw [O9,show A ss=_ from h,wH]
 cases p with
 | true=>rfl
 | false=>rw [if_neg (by decide),show B ss=_ from h2 rfl]; rfl
theorem JZ {T:Ty} {p:Bool} (h:Aa A ss a) (hb:D.zL T a=some p):Pu (oF T A) ss (.bl p):=by
 obtain ⟨r,e,g⟩:=h
 unfold Pu
 rw [abd,e,rJ,g,Option.bind_some,hb]; rfl
theorem ab6 (h:Aa A ss a) {lo hi:Option Int} (L U:Option AE) (hL:∀ k:Option Int->List SD->Out,vL L k ss=k lo ss) (hU:∀ k:Option Int->List SD->Out,vL U k ss=k hi ss) (hd:Wx a lo hi=some d):Pu (Mw A L U) ss d:=by
 obtain ⟨r,e,g⟩:=h
 unfold Pu Mw
 rw [e,rJ,hL,hU,g,Option.bind_some,hd]; rfl
theorem abg {k:Option Int->List SD->Out}:vL none k ss=k none ss:=rfl
theorem W9 {i:Int} (h:Aa A ss (.int i)) (k:Option Int->List SD->Out):vL (some A) k ss=k (some i) ss:=by
 obtain ⟨r,e,g⟩:=h
 unfold vL
 show (A ss).bind _=_
 rw [e,rJ,g]
theorem abh {i:Int} (h:Aa A ss a) (hi:Aa B ss (.int i)) (hd:Wx a none (some i)=some d):Pu (Mw A none (some B)) ss d:=ab6 h none (some B) (fun _=>abg) (W9 hi) hd
theorem Lr {i:Int} {l:List D} (hA:Aa A ss (.int i)) (hr:qD 0 i=some l):wG yM [A] ss = .val l ss:=by
 obtain ⟨rs,e1,e2⟩:=(JX hA M5).ev
 unfold wG
 rw [e1]
 show rG.of ((gets rs ss).bind yM) ss=_
 rw [e2,Option.bind_some]
 show rG.of (qD 0 i) ss=_
 rw [hr]; rfl
theorem ab7 {l:List D} (hA:Pu A ss a) (h:a.items=some l):yL A ss = .val l ss:=by
 unfold yL
 rw [show A ss=_ from hA]
 simp only [h]
theorem st_ret (h:Pu A ss d):gH A n ss = .rt d ss:=by rw [Uy,show A ss=_ from h]; rfl
theorem ZQ {p:Bool} {S T:AS} (h:Pu C ss (.bl p)):jh C S T n ss=if p then S n ss else T n ss:=by rw [Gg,show C ss=_ from h]; rfl
theorem st_seq {S T:AS} (h:S n ss = .nx s):cJ S T n ss=T n s:=by rw [vp,h]
theorem lu {S T:AS} (h:S n ss = .rt d s):cJ S T n ss = .rt d s:=by rw [vp,h]
theorem Xa {S T:AS} (h:S n ss = .bk s):cJ S T n ss = .bk s:=by rw [vp,h]
theorem Jr {i:Nat} {sd:SD} (h:ss[i]? = some sd) (hn:∀ sh d,sd ≠ .ow true sh d):qX i d ss = .nx (ss.set i (.im d)):=by
 unfold qX
 rw [h]
 cases sd with
 | un=>rfl
 | im d'=>rfl
 | ow io sh d'=>cases io with
  | true=>exact absurd rfl (hn sh d')
  | false=>rfl
theorem st_set {i:Nat} {sd:SD} (h:Pu A ss d) (hi:ss[i]? = some sd) (hn:∀ sh d,sd ≠ .ow true sh d):lF i A n ss = .nx (ss.set i (.im d)):=by
 rw [Uz,show A ss=_ from h,Cv]
 exact Jr hi hn
theorem oH {p:Bool} {S T:AS} {o:cA} (h:Pu C ss (.bl p)) (hp:p=true) (e:S n ss=o):jh C S T n ss=o:=by rw [ZQ h,hp,if_pos rfl,e]
theorem tV {p:Bool} {S T:AS} {o:cA} (h:Pu C ss (.bl p)) (hp:p=false) (e:T n ss=o):jh C S T n ss=o:=by rw [ZQ h,hp,if_neg (by decide),e]
theorem pA {N:Nat} {B:AS} {s0 s' a':List SD} (h0:ss++List.replicate (N - ss.length) .un=s0) (h:B n s0 = .rt d s') (hf:fin ss s'=some a'):runB N B n ss = .ret d a':=by
 unfold runB; rw [h0,h]; simp only [hf]
theorem abj {N:Nat} {B:AS} {s0 s' a':List SD} (h0:ss++List.replicate (N - ss.length) .un=s0) (h:B n s0 = .nx s') (hf:fin ss s'=some a'):runB N B n ss = .ret .non a':=by
 unfold runB; rw [h0,h]; simp only [hf]
end
end DL
namespace DL
open PySem PySem.Spec PyProof.Rows L2
section
variable {X:Cx} {W:WX} {st:Stmt} {e a b c ke ve:Expr} {A B C:AE} {pins:List (Addr×Obj)} {s:Shared} {σ:L2.St} {G H G3 H3:Hp} {pin:L2.St} {own Jl:List (List Addr)} {ss ss' s2:List SD} {pos:Pos}
def Pg (A:AE):AE:=fun ss=>(A ss).bind fun r s=>Out.ofD ((r.get s).bind fun d=>match d with | .int i=>some (.int (-i)) | _=>none) s
theorem ab8 (ha:DE X W e A):DE X W (.UnaryOp .USub e pos) (Pg A):=
 DE.mk fun pins s σ H pin G own ss I F w=>by
  refine UnaryOp_ (thn (ha.go I F w.bind1) fun u1 s1 ⟨r1,ss1,x,H1,G1,own1,e1,I1,rx,st1,F1,k1⟩=>?_)
  have w1:=(w.JF e1).step st1
  obtain ⟨d',q⟩:=vf w1
  obtain ⟨d,q1,q2⟩:=dY q
  cases d with
  | int i=>
   cases q2
   obtain rfl:=(F1.top k1 q1).vInt
   refine thn (un_neg pins s1 σ H1 _ u1 (fun v H'=>v = .int (-i)/\H'=H1) I1 rx ⟨i,rfl,rfl,rfl⟩) fun u' s' ⟨v,H',I',rv,ev,eH⟩=>?_
   subst ev; subst eH
   exact ⟨.im (.int (-i)),ss1, .int (-i),H',G1,own1,by unfold Pg; rw [e1]; show Out.ofD _ _=_; rw [q]; rfl,I',rv,st1,F1, .int _⟩
  | _=>cases q2
end
end DL
namespace DL
open PySem PySem.Spec PyProof.Rows L2
end DL
namespace DL
open PySem PySem.Spec PyProof.Rows L2
section
variable {K:Kw} {pin:L2.St} {G H:Hp} {own:List (List Addr)} {σ:L2.St} {ss:List SD}
theorem Ax {i:Nat} {own:List (List Addr)} {p:Addr} (h:p∈(own.set i []).flatten):p∈own.flatten:=by
 obtain ⟨j,f,e,hp⟩:=bT.mp h
 by_cases c:i=j
 ·subst c
  by_cases hl:i < own.length
  ·rw [List.getElem?_set_self hl] at e; cases e; exact absurd hp List.not_mem_nil
  ·rw [List.getElem?_eq_none (by rw [List.length_set]; omega)] at e; cases e
 ·rw [List.getElem?_set_ne c] at e
  exact bT.mpr ⟨j,f,e,hp⟩
theorem Fm.lend {i:Nat} {io:Bool} {sh:Sh} {d:D} (F:Fm K pin G own σ H ss) (h:ss[i]? = some (.ow io sh d)) :
  ∃ v f,σ[i]? = some (some v)/\own[i]? = some f/\Own K G H sh v d f/\f.Nodup/\Fm K pin G (own.set i []) σ H (ss.set i .un) /\
   ∀ G1 own1 H1 s1,Step (own.set i []).flatten G H own1.flatten G1 H1->Fm K pin G1 own1 σ H1 s1->s1[i]? = some .un ->
    Own K G1 H1 sh v d f/\(∀ p∈f,G1 p=none)/\Fm K pin G1 (own1.set i f) σ H1 (s1.set i (.ow io sh d))/\Step own.flatten G H (own1.set i f).flatten G1 H1:=by
 obtain ⟨v,f,h1,h2,h3⟩:=F.sl.zK h
 have nd:f.Nodup:=F.ap.a1 i f h2
 have F0:=F.put (x':=some v) (Mu:=.un) (f':=[]) h2 (Ex.refl G) F.ex (fun p o z => .inl z) (fun p o z _=>z) rfl (fun p hp=>absurd hp List.not_mem_nil) List.nodup_nil (fun p hp=>absurd hp List.not_mem_nil) (fun s d z=>nomatch z)
 rw [set_same h1] at F0
 refine ⟨v,f,h1,h2,h3,nd,F0,fun G1 own1 H1 s1 st F1 hs=>?_⟩
 have ZR:∀ p∈f,p∈own.flatten:=fun p hp=>bT.mpr ⟨i,f,h2,hp⟩
 have Ph:∀ p∈f,p ∉ (own.set i []).flatten:=fun p hp hm=>by
  obtain ⟨j,g,e,hg⟩:=bT.mp hm
  by_cases c:i=j
  ·subst c
   by_cases hl:i < own.length
   ·rw [List.getElem?_set_self hl] at e; cases e; exact absurd hg List.not_mem_nil
   ·rw [List.getElem?_eq_none (by rw [List.length_set]; omega)] at e; cases e
  ·rw [List.getElem?_set_ne c] at e
   exact c (F.ap.a2 i j f g p h2 e hp hg)
 have there:∀ p∈f,∃ o,H p=some o:=h3.there
 have keep:∀ p∈f,∀ o,H p=some o->H1 p=some o:=fun p hp o e=>st.h p o e (Ph p hp)
 have free:∀ p∈f,G1 p=none:=fun p hp=>by
  cases q:G1 p with
  | none=>rfl
  | some o=>
   rcases st.n p o q with z | z | z
   ·have:=F.fr p (ZR p hp); rw [this] at z; cases z
   ·obtain ⟨o',e⟩:=there p hp; rw [e] at z; cases z
   ·exact absurd z (Ph p hp)
 have apart:∀ p∈f,p ∉ own1.flatten:=fun p hp hm=>by
  rcases st.w p hm with z | z
  ·exact Ph p hp z
  ·obtain ⟨o',e⟩:=there p hp; rw [e] at z; cases z
 have hO:=h3.mono st.g keep
 obtain ⟨x,f1,e1,e2,e3⟩:=F1.sl.three hs
 have e3:f1=[]:=e3
 subst e3
 have F2:=F1.put (x':=some v) (Mu:=.ow io sh d) (f':=f) e2 (Ex.refl G1) F1.ex (fun p o z => .inl z) (fun p o z _=>z) ⟨v,rfl,hO⟩ (fun p hp => .inr (apart p hp)) nd free (fun s d' z=>by
  cases z
  rw [set_same h1]
  exact F.io i _ _ h)
 rw [set_same h1] at F2
 refine ⟨hO,free,F2,⟨st.g,fun p o q=>?_,fun p o q hn=>st.h p o q fun z=>hn (Ax z),fun p hp=>?_,st.t⟩⟩
 ·rcases st.n p o q with z | z | z
  ·exact .inl z
  ·exact .inr (.inl z)
  ·exact .inr (.inr (Ax z))
 ·obtain ⟨j,g,e,hg⟩:=bT.mp hp
  by_cases c:i=j
  ·subst c
   by_cases hl:i < own1.length
   ·rw [List.getElem?_set_self hl] at e; cases e; exact .inl (ZR p hg)
   ·rw [List.getElem?_eq_none (by rw [List.length_set]; omega)] at e; cases e
  ·rw [List.getElem?_set_ne c] at e
   rcases st.w p (bT.mpr ⟨j,g,e,hg⟩) with z | z
   ·exact .inl (Ax z)
   ·exact .inr z
theorem bF.length {s:Sh}:∀ {vs:List V} {ds:List D} {f:List Addr},bF K G H s vs ds f->vs.length=ds.length
 | _,_,_, .nil=>rfl
 | _,_,_, .cons a b=>by rw [List.length_cons,List.length_cons,b.length]
end
structure El where
 io:Bool
 ls:List D
 k:Nat
 l:List D
 s:List SD
section
variable {X:Cx} {W:WX} {e a b c:Expr} {A B C:AE} {pins:List (Addr×Obj)} {s:Shared} {σ:L2.St} {G H:Hp} {pin:L2.St} {own:List (List Addr)} {ss ss':List SD} {pos:Pos}
structure ElP (X:Cx) (pin:L2.St) (i:Nat) (own:List (List Addr)) (σ:L2.St) (G H:Hp) (E:El) (p:Addr) (f:List Addr) (G1:Hp) (own1:List (List Addr)) (H1:Hp) (q:Addr):Prop where
 st:Step (own.set i []).flatten G H own1.flatten G1 H1
 F:Fm X.kw pin G1 own1 σ H1 E.s
 un:E.s[i]? = some .un
 sg:σ[i]? = some (some (.ref p))
 ow:own[i]? = some f
 nd:f.Nodup
 tree:Own X.kw G H (.lst (.lst .im)) (.ref p) (.lst E.ls) f
 mem:q∈f
 pn:p ≠ q
 inn:∀ G2 H2,Ex G G2->(∀ a∈f,∀ o,H a=some o->H2 a=some o)->∃ ys,H2 q=some (.lst ys)/\au X.kw G2 ys E.l/\∀ ys' l',au X.kw G2 ys' l'->Own X.kw G2 (upd H2 q (.lst ys')) (.lst (.lst .im)) (.ref p) (.lst (E.ls.set E.k (.lst l'))) f
end
end DL
namespace DL
open PySem PySem.Spec PyProof.Rows L2
section
variable {X:Cx} {W:WX} {e a b c:Expr} {A B C:AE} {pins:List (Addr×Obj)} {s:Shared} {σ:L2.St} {G H:Hp} {pin:L2.St} {own:List (List Addr)} {ss ss':List SD} {pos:Pos}
def El.back (E:El) (i:Nat) (s:List SD) (ls:List D):List SD:=s.set i (.ow E.io (.lst (.lst .im)) (.lst ls))
theorem ElP.back {i:Nat} {E:El} {p q:Addr} {f:List Addr} {G1:Hp} {own1:List (List Addr)} {H1:Hp} (P:ElP X pin i own σ G H E p f G1 own1 H1 q) (F:Fm X.kw pin G own σ H ss) (h:ss[i]? = some (.ow E.io (.lst (.lst .im)) (.lst E.ls)))
  {G2:Hp} {cV:List (List Addr)} {H2:Hp} {s2:List SD} (st:Step own1.flatten G1 H1 cV.flatten G2 H2) (F2:Fm X.kw pin G2 cV σ H2 s2) (hs:s2[i]? = some .un) :
  (∀ a∈f,∀ o,H a=some o->H2 a=some o)/\Ex G G2/\(∀ a∈f,G2 a=none)/\Fm X.kw pin G2 (cV.set i f) σ H2 (E.back i s2 E.ls)/\Step own.flatten G H (cV.set i f).flatten G2 H2:=by
 obtain ⟨v,f',h1,h2,h3,nd,F0,back⟩:=F.lend h
 rw [P.ow] at h2; cases h2
 have st2:=P.st.trans st
 obtain ⟨hO,free,F3,st3⟩:=back G2 cV H2 s2 st2 F2 hs
 refine ⟨fun a ha o z=>?_,st2.g,free,F3,st3⟩
 refine st2.h a o z fun hm=>?_
 obtain ⟨j',g',ej,hg⟩:=bT.mp hm
 by_cases c:i=j'
 ·subst c
  by_cases hl:i < own.length
  ·rw [List.getElem?_set_self hl] at ej; cases ej; exact absurd hg List.not_mem_nil
  ·rw [List.getElem?_eq_none (by rw [List.length_set]; omega)] at ej; cases ej
 ·rw [List.getElem?_set_ne c] at ej
  exact c (F.ap.a2 i j' f g' a P.ow ej ha hg)
end
end DL
namespace DL
open PySem PySem.Spec PyProof.Rows L2
theorem bF.append {K:Kw} {G H:Hp} {s:Sh}:∀ {vs us:List V} {ds es:List D} {f g:List Addr},bF K G H s vs ds f->bF K G H s us es g->bF K G H s (vs++us) (ds++es) (f++g)
 | _,_,_,_,_,_, .nil,h=>h
 | _,_,_,_,_,_, .cons a b,h=>by
  rw [List.cons_append,List.cons_append,List.append_assoc]
  exact .cons a (b.append h)
structure Pj (S:List Addr) (G H:Hp) (own:List Addr):Prop where
 g:∀ p∈S,G p=none
 o:∀ p∈S,p ∉ own
 h:∀ p∈S,∃ o,H p=some o
theorem Pj.step {S:List Addr} {G H G' H':Hp} {own own':List Addr} (a:Pj S G H own) (st:Step own G H own' G' H'):Pj S G' H' own'/\∀ p∈S,∀ o,H p=some o->H' p=some o:=by
 have kp:∀ p∈S,∀ o,H p=some o->H' p=some o:=fun p hp o e=>st.h p o e (a.o p hp)
 refine ⟨⟨fun p hp=>?_,fun p hp hm=>?_,fun p hp=>?_⟩,kp⟩
 ·cases q:G' p with
  | none=>rfl
  | some o=>
   obtain ⟨o',e⟩:=a.h p hp
   rcases st.n p o q with z | z | z
   ·rw [a.g p hp] at z; cases z
   ·rw [e] at z; cases z
   ·exact absurd z (a.o p hp)
 ·obtain ⟨o',e⟩:=a.h p hp
  rcases st.w p hm with z | z
  ·exact a.o p hp z
  ·rw [e] at z; cases z
 ·obtain ⟨o',e⟩:=a.h p hp
  exact ⟨o',kp p hp o' e⟩
end DL
namespace DL
open PySem PySem.Spec PyProof.Rows L2
def ab9 (w:World) (d:Addr) (u:HO) (ks vs:List V):Prop:=
 (∃ kvs:List (Key×V),u = .dK kvs/\ks=kvs.map (fun k=>kV k.1)/\vs=kvs.map (·.2))\/(∃ es:List (NestedKey×Addr×V),u=NDO w d es/\ks=es.map (fun e=>V.ref e.2.1)/\vs=es.map (·.2.2))
theorem ab9.len {w:World} {d:Addr} {u:HO} {ks vs:List V} (h:ab9 w d u ks vs):ks.length=vs.length:=by
 rcases h with ⟨_,_,rfl,rfl⟩ | ⟨_,_,rfl,rfl⟩ <;> simp
end DL
namespace DL
open PySem PySem.Spec PyProof.Rows L2
section
variable {K:Kw} {G G' H H':Hp}
structure Kp (G G':Hp):Prop where
 rd:∀ p w,(∀ o x,w ≠ .frz o x)->Rd G p w->Rd G' p w
 ls:∀ p xs,G p=some (.lst xs)->G' p=some (.lst xs)
 ins:∀ {p C dx xs},G p=some (.ins C dx xs)->G' p=some (.ins C dx xs)
theorem Kp.t (k:Kp G G') {K:PySem.W.Frag} {p:Addr} {xs:List V} (h:SqT K G p xs):SqT K G' p xs:=by
 rcases h with h | h
 ·exact .inl (k.rd _ _ (fun _ _ z=>nomatch z) h)
 ·exact .inr h
theorem Kp.l (k:Kp G G') {K:PySem.W.Frag} {p:Addr} {xs:List V} (h:SqL K G p xs):SqL K G' p xs:=by
 rcases h with h | h
 ·exact .inl (k.rd _ _ (fun _ _ z=>nomatch z) h)
 ·exact .inr h
theorem Kp.dK {G G':Hp} (k:Kp G G') {p:Addr} {ks:List (Key×V)} (h:Rd G p (.dK ks)):Rd G' p (.dK ks):=k.rd _ _ (fun _ _ z=>nomatch z) h
theorem Kp.dN {G G':Hp} (k:Kp G G') {w:World} {p:Addr} {es:List (NestedKey×Addr×V)} (h:Rd G p (NDO w p es)):Rd G' p (NDO w p es):=k.rd _ _ (fun _ _ z=>nomatch z) h
theorem Kp.xo {G G':Hp} (k:Kp G G') {p C:Addr} {od:Option Addr} (h:Rd G p (Ft C od p)):Rd G' p (Ft C od p):=k.rd _ _ (fun _ _ z=>nomatch (show HO.ext _=HO.frz _ _ from z)) h
theorem Kp.xd {G G':Hp} (k:Kp G G') {od:Option Addr} {xs:List (Str×V)} (h:Wq G od xs):Wq G' od xs:=by
 rcases h with h | ⟨dx,a,b⟩
 ·exact .inl h
 ·exact .inr ⟨dx,a,k.rd _ _ (fun _ _ z=>nomatch z) b⟩
mutual
theorem Rep.kp {K:Kw} {G G':Hp} (k:Kp G G'):∀ {v:V} {d:D},Rep K G v d->Rep K G' v d
 | _,_, .non => .non
 | _,_, .bl b => .bl b
 | _,_, .int i => .int i
 | _,_, .str x h => .str x h
 | _,_, .tup a b => .tup (k.t a) (au.kp k b)
 | _,_, .lst a b => .lst (k.ls _ _ a) (au.kp k b)
 | _,_, .fz a b => .fz (k.l a) (au.kp k b)
 | _,_, .ob a b c => .ob a (k.ins b) (au.kp k c)
 | _,_, .xo a g b d c => .xo a g (k.xo b) (k.xd d) (au.kp k c)
 | _,_, .dK a c r b => .dK (k.dK a) c (au.kp k r) (au.kp k b)
 | _,_, .dN a c r b => .dN (k.dN a) c (au.kp k r) (au.kp k b)
theorem au.kp {K:Kw} {G G':Hp} (k:Kp G G'):∀ {vs:List V} {ds:List D},au K G vs ds->au K G' vs ds
 | _,_, .nil => .nil
 | _,_, .cons a b => .cons (Rep.kp k a) (au.kp k b)
end
mutual
theorem Own.kp {K:Kw} {G G' H H':Hp} (e:Kp G G'):∀ {s:Sh} {v:V} {d:D} {f:List Addr},Own K G H s v d f->(∀ p∈f,∀ o,H p=some o->H' p=some o)->Own K G' H' s v d f
 | _,_,_,_, .im r,_ => .im (r.kp e)
 | _,_,_,_, .lst a b,k => .lst (k _ List.mem_cons_self _ a) (bF.kp e b fun p hp=>k p (List.mem_cons_of_mem _ hp))
 | _,_,_,_, .dK a c r b,k => .dK (k _ List.mem_cons_self _ a) c (r.kp e) (bF.kp e b fun p hp=>k p (List.mem_cons_of_mem _ hp))
 | _,_,_,_, .dN a c r b,k => .dN (k _ List.mem_cons_self _ a) c (r.kp e) (bF.kp e b fun p hp=>k p (List.mem_cons_of_mem _ hp))
 | _,_,_,_, .ob a c m b,k => .ob (k _ List.mem_cons_self _ a) (k _ (List.mem_cons_of_mem _ List.mem_cons_self) _ c) m (bQ.kp e b fun p hp=>k p (List.mem_cons_of_mem _ (List.mem_cons_of_mem _ hp)))
 | _,_,_,_, .tb r t,k => .tb (r.kp e) (by
  obtain ⟨ps,h1,h2,h3⟩:=t
  refine ⟨ps,k _ List.mem_cons_self _ h1,h2,fun pos cv hc=>?_⟩
  obtain ⟨c,e1,e2⟩:=h3 pos cv hc
  exact ⟨c,e1,e.rd _ _ (fun _ _ z=>nomatch (show HO.ext _=HO.frz _ _ from z)) e2⟩)
theorem bF.kp {K:Kw} {G G' H H':Hp} (e:Kp G G'):∀ {s:Sh} {vs:List V} {ds:List D} {f:List Addr},bF K G H s vs ds f->(∀ p∈f,∀ o,H p=some o->H' p=some o)->bF K G' H' s vs ds f
 | _,_,_,_, .nil,_ => .nil
 | _,_,_,_, .cons a b,k => .cons (Own.kp e a fun p hp=>k p (List.mem_append_left _ hp)) (bF.kp e b fun p hp=>k p (List.mem_append_right _ hp))
theorem bQ.kp {K:Kw} {G G' H H':Hp} (e:Kp G G'):∀ {f:Str} {s:Sh} {xs:List (Str×V)} {ds:List D} {fp:List Addr},bQ K G H f s xs ds fp->(∀ p∈fp,∀ o,H p=some o->H' p=some o)->bQ K G' H' f s xs ds fp
 | _,_,_,_,_, .nil,_ => .nil
 | _,_,_,_,_, .im n r b,k => .im n (r.kp e) (bQ.kp e b k)
 | _,_,_,_,_, .ow a b,k => .ow (Own.kp e a fun p hp=>k p (List.mem_append_left _ hp)) (bQ.kp e b fun p hp=>k p (List.mem_append_right _ hp))
end
theorem Fm.kp {pin:L2.St} {own:List (List Addr)} {σ:L2.St} {ss:List SD} (F:Fm K pin G own σ H ss) (k:Kp G G') (ex:Ex G' H') (hh:∀ p∈own.flatten,∀ o,H p=some o->H' p=some o) (fr:∀ p∈own.flatten,G' p=none):Fm K pin G' own σ H' ss:=by
 refine ⟨ex,⟨F.sl.l1,F.sl.l2,fun i x sd f h1 h2 h3=>?_⟩,F.ap,fr,F.io⟩
 have z:=F.sl.at' i x sd f h1 h2 h3
 cases sd with
 | un=>exact z
 | im d=>obtain ⟨a,v,b,c⟩:=z; exact ⟨a,v,b,c.kp k⟩
 | ow io s d=>obtain ⟨v,b,c⟩:=z; exact ⟨v,b,c.kp k fun p hp=>hh p (bT.mpr ⟨i,f,h3,hp⟩)⟩
theorem au.at {vs:List V} {ds:List D} (h:au K G vs ds) {i:Nat} {v:V} {d:D} (h1:vs[i]? = some v) (h2:ds[i]? = some d):Rep K G v d:=by
 obtain ⟨v',e,r⟩:=h.get h2
 rw [h1] at e; cases e; exact r
end
end DL
namespace DL
open PySem PySem.Spec PyProof.Rows L2
inductive acd where
 | bad | val (l:List (D×D)) (ss:List SD)
def acd.out:acd->Out
 | .bad => .bad
 | .val l s => .val (.im (.iH false l)) s
section
variable {X:Cx} {W:WX} {e elt kx vx iter tg:Expr} {A B C E:AE} {I:AI} {g:GT} {pins:List (Addr×Obj)} {s:Shared} {σ:L2.St} {G H G1 H1:Hp} {pin:L2.St} {own own1:List (List Addr)} {ss ss':List SD} {pos:Pos}
structure YQ (X:Cx) (D0:Addr) (G H:Hp) (own:List Addr) (acc:List (D×D)) (ks:List (Key×V)):Prop where
 h:H D0=some (.dK ks)
 nd:(ks.map (·.1)).Nodup
 k1:acc.map (·.1)=ks.map (fun k=>kD k.1)
 k2:au X.kw G (ks.map fun k=>kV k.1) (acc.map (·.1))
 k3:au X.kw G (ks.map (·.2)) (acc.map (·.2))
 o0:Pj [D0] G H own
theorem YQ.step {D0:Addr} {own own':List Addr} {G H G' H':Hp} {acc:List (D×D)} {ks:List (Key×V)} (N:YQ X D0 G H own acc ks) (st:Step own G H own' G' H'):YQ X D0 G' H' own' acc ks:=by
 obtain ⟨o,k⟩:=N.o0.step st
 exact ⟨k D0 (List.mem_singleton.mpr rfl) _ N.h,N.nd,N.k1,N.k2.mono st.g,N.k3.mono st.g,o⟩
end
end DL
namespace DL
open PySem PySem.Spec PyProof.Rows L2
end DL
namespace DL
open PySem PySem.Spec PyProof.Rows L2
end DL
namespace DL
open PySem PySem.Spec PyProof.Rows L2
end DL
set_option maxHeartbeats 2000000
namespace PySem
namespace Ab
open PySem.W PySem.Calls PyProof.Rows PySem.HandSPX Builtin Builtin.ObjectAttr
abbrev tl:List Value:=[.type "Exception", .type "BaseException", .type "object"]
def Ac (bm:List Value):Prop:=∃ B:Addr,bm = .ref B :: tl
theorem Ac.has {bm:List Value} (h:Ac bm) (X:String):bm.contains (.type X)=tl.contains (.type X):=by
 obtain ⟨B,rfl⟩:=h
 rw [List.contains_cons]; rfl
section
variable {P:Program} {w:World} {A:Around} {R:Result->Shared->Prop} {z:Heap} {gs:Array GenState} {dr:Drawn} {k:Nat} {o:OsState}
theorem Dr {K:W.Frag} {f:Str} {tk:Tok} {v:Value} {e C:Addr} {fs:Array Value} {c:ClassData} {bm:List Value}
  (kin:K.In z) (Ds:z.get? e=some { cls:=.ref C,data:=.fields fs }) (cls:W.clsIn K C=some c) (mro:c.mro = .ref C :: bm) (sub:Ac bm) (dict:c.hasDict=true) (no:W.findIn K (.ref C) f=some none)
  (fin:∀ z' k' b,(∀ a u,a ≠ e->z.get? a=some u->z'.get? a=some u)->z.objs.size≤b->b ≠ e->z'.get? e=some { cls:=.ref C,dict:=some b,data:=.fields fs }->z'.Ns1 b (fun y=>if y=f then some v else none)->R (.ok (.ret .none)) ⟨z',gs,dr,k',o⟩) :
  codeAny (model P w) A (.call (.builtin "object.__setattr__") ⟨[.ref e, .str f tk,v],[]⟩) R ⟨z,gs,dr,k,o⟩:=by
 obtain ⟨B,rfl⟩:=sub
 have inst:W.InstAt z e { cls:=.ref C,data:=.fields fs } C none:=⟨Ds,rfl,rfl,trivial⟩
 have ne:e ≠ z.objs.size:=Nat.ne_of_lt (Heap.lt_size Ds)
 have S:=F.store_object
 have isObj:W.mroIn K C (.type "object")=some true:=by
  unfold W.mroIn
  rw [cls,Option.bind_some,mro]; rfl
 have Ls:W.Looks (model P w) z (isInstance (.ref e) (.type "object")) true:=inst.type.andThen (W.looks_mroIn kin isObj)
 have Lw:W.Looks (model P w) z (mroOf (.ref C)) c.mro:=(W.looks_clsIn kin cls).andThen .now
 have Ly:W.Looks (model P w) z (classData C) c:=W.looks_clsIn kin cls
 have pass:refuseLoop (.ref e) "__setattr__" c.mro=pure ():=by
  rw [mro,refuseLoop_ref,refuseLoop_ref]; exact F.store_Exception.passes _
 refine codeAny_call_builtin S.slot.plain S.entry (@W.check_slot (model P w) _ _ ⟨z,gs,dr,k,o⟩ "object.__setattr__" "object" "__setattr__" (.ref e) [.str f tk,v] [] _ S.kind S.split Ls (S.args (.ref e) (.str f tk) v) ?_)
 rw [W.osa_eq,refuse_eq]; refine wpAny_bind (wpAny_bind (inst.type.at (wpAny_bind (Lw.at ?_)))); rw [pass]
 refine wpAny_pure (wpAny_bind (inst.type.at (wpAny_bind ((W.looks_findIn kin no).at (wpAny_bind ((W.Looks.now (a:=(none:Option Value))).at ?_))))))
 show wpAny _ _ (storeInOwnDict (.ref e) (.ref C) (.str f tk) f v false) _ _ _; obtain ⟨c0,c1,c2,c3,c4,c5,c6,c7,c8,c9,c10⟩:=c
 obtain rfl:c5=true:=dict
 unfold storeInOwnDict; unfold ownDictForStores
 repeat (first | with_reducible refine store_in_new ?_ ?_ | with_reducible refine wpAny_loadPart_at Ds ?_ | with_reducible refine Ly.at ?_ | wp_step)
 ·exact ⟨_,#[],_,(Heap.get?_update_ne _ _ _ _ ne.symm).trans (Heap.get?_push_at rfl rfl),rfl,fun q hq=>absurd hq (by simp),fun _=>rfl⟩
 ·intro z' k' ns same; have pushed:(z.push { cls:=.type "dict",data:=.dict #[] }).get? e=some { cls:=.ref C,data:=.fields fs }:=Heap.get?_push_of_some _ Ds
  refine fin z' k' z.objs.size (fun a u ha hu=>?_) (Nat.le_refl _) ne.symm ?_ ns
  ·refine (same.2 a (Nat.ne_of_lt (Heap.lt_size hu))).trans ?_
   exact (Heap.get?_update_ne _ _ _ _ ha).trans (Heap.get?_push_of_some _ hu)
  ·exact (same.2 e ne).trans (Heap.get?_update_self _ pushed rfl)
end
end Ab
end PySem
namespace PySem
namespace xK
open PySem.W PySem.Calls PyProof.Rows PySem.HandSPX PySem.Ab
theorem YS {K:Frag} {h h':Heap} {x:Addr} (X:K.In h) (hx:K.lookup x=none) (k:∀ b o,b ≠ x->h.get? b=some o->h'.get? b=some o):K.In h':=fun a o e=>
 k a o (fun z=>by rw [z,hx] at e; cases e) (X a o e)
theorem ldC {M:Model} {s:Shared} {name:Str} {scope:Scope} {L a:Addr} {cd:Value} {m:Str->Option Value} {x:Str} {pos:Pos} {v:Value} {Q:Value->Shared->Prop} {A:Around} {E:Value->Shared->Prop} (hn:s.heap.Ns L m) (hv:m x=some v) (h:Q v s)
  (hk:scope.kind = .function:=by rfl) (hl:(envOfC name scope L a cd).kindOf x=some .local:=by rfl) (hd:(x == ("__debug__" : Str))=false:=by decide) :
  wpAny M A (eval (.Name x pos) (envOfC name scope L a cd)) Q E s:=wpAny_Name (wpAny_loadName_local hk hl hn hv h) hd
end xK
end PySem
namespace L2
open PySem PySem.Spec PyProof.Rows
end L2
namespace DL
open PySem PySem.Spec PyProof.Rows L2
end DL
namespace DL
open PySem PySem.Spec PyProof.Rows L2
mutual
def yR:Sh->D->Bool
 | .im,d=>D.nm d
 | .lst s, .lst l=>Dt s l
 | .dK s, .iH _ kvs=>Ad s kvs
 | .dN s, .iH _ kvs=>Ad s kvs
 | _,_=>false
def Dt:Sh->List D->Bool
 | _,[]=>true
 | s,d :: l=>yR s d && Dt s l
def Ad:Sh->List (D×D)->Bool
 | _,[]=>true
 | s,(k,d) :: l=>D.nm k && yR s d && Ad s l
end
theorem Gj {s:Sh}:∀ {kvs:List (D×D)},Ad s kvs=true->D.nms (kvs.map (·.1))=true/\Dt s (kvs.map (·.2))=true
 | [],_=>⟨rfl,rfl⟩
 | (k,d) :: l,h=>by
  have h':(D.nm k && yR s d && Ad s l)=true:=by simpa only [Ad] using h
  rw [Bool.and_eq_true,Bool.and_eq_true] at h'
  obtain ⟨a,b⟩:=Gj h'.2
  refine ⟨?_,?_⟩
  ·show (D.nm k && D.nms (l.map (·.1)))=true
   rw [h'.1.1,a]; rfl
  ·show Dt s (d :: l.map (·.2))=true
   unfold Dt
   rw [h'.1.2,b]; rfl
mutual
theorem Own.back {K:Kw} {G G' H:Hp} (h:∀ p xs,SqT K G p xs->SqT K G' p xs):∀ {s:Sh} {v:V} {d:D} {f:List Addr},Own K G H s v d f->yR s d=true->Own K G' H s v d f
 | _,_,_,_, .im r,n => .im (r.back h (by simpa only [yR] using n))
 | _,_,_,_, .lst a b,n => .lst a (bF.back h b (by simpa only [yR] using n))
 | _,_,_,_, .dK a c r b,n=>by
  obtain ⟨n1,n2⟩:=Gj (show Ad _ _=true by simpa only [yR] using n)
  exact .dK a c (r.back h n1) (bF.back h b n2)
 | _,_,_,_, .dN a c r b,n=>by
  obtain ⟨n1,n2⟩:=Gj (show Ad _ _=true by simpa only [yR] using n)
  exact .dN a c (r.back h n1) (bF.back h b n2)
 | _,_,_,_, .ob _ _ _ _,n=>absurd n (by simp only [yR]; decide)
 | _,_,_,_, .tb _ _,n=>absurd n (by simp only [yR]; decide)
theorem bF.back {K:Kw} {G G' H:Hp} (h:∀ p xs,SqT K G p xs->SqT K G' p xs):∀ {s:Sh} {vs:List V} {ds:List D} {f:List Addr},bF K G H s vs ds f->Dt s ds=true->bF K G' H s vs ds f
 | _,_,_,_, .nil,_ => .nil
 | _,_,_,_, .cons a b,n=>by
  unfold Dt at n
  rw [Bool.and_eq_true] at n
  exact .cons (Own.back h a n.1) (bF.back h b n.2)
end
def SD.drop:SD->SD
 | .ow false s d=>if yR s d=true then .ow false s d else .un
 | sd=>sd
end DL
namespace DL
open PySem PySem.Spec PyProof.Rows L2
end DL
namespace DL
open PySem PySem.Spec PyProof.Rows L2
end DL
namespace DL
open PySem PySem.Spec PyProof.Rows L2
end DL
namespace DL
open PySem PySem.Spec PyProof.Rows L2
end DL
namespace DL
open PySem PySem.Spec PyProof.Rows L2
end DL
namespace DL
open PySem PySem.Spec PyProof.Rows L2
end DL
namespace DL
open PySem PySem.Spec PyProof.Rows L2
end DL
namespace DL
open PySem PySem.Spec PyProof.Rows L2
end DL
namespace DL
open PySem PySem.Spec PyProof.Rows L2
theorem bQ.get {K:Kw} {G H:Hp}:∀ {f:Str} {s:Sh} {xs:List (Str×V)} {ds:List D} {fp:List Addr} {n:Nat} {g:Str} {d:D},bQ K G H f s xs ds fp->(xs.map (·.1))[n]? = some g->g ≠ f->ds[n]? = some d->∃ v,(xs.map (·.2))[n]? = some v/\Rep K G v d
 | _,_,_,_,_,n,_,_, .nil,h,_,_=>by simp at h
 | _,_,_,_,_,0,g,d, .im ne r b,h,hg,hd=>by simp at hd ⊢; subst hd; exact r
 | _,_,_,_,_,0,g,d, .ow a b,h,hg,hd=>by simp at h; exact absurd h.symm hg
 | _,_,_,_,_,n+1,g,d, .im ne r b,h,hg,hd=>by
  obtain ⟨v,h1,h2⟩:=bQ.get (n:=n) b (by simpa using h) hg (by simpa using hd)
  exact ⟨v,by simpa using h1,h2⟩
 | _,_,_,_,_,n+1,g,d, .ow a b,h,hg,hd=>by
  obtain ⟨v,h1,h2⟩:=bQ.get (n:=n) b (by simpa using h) hg (by simpa using hd)
  exact ⟨v,by simpa using h1,h2⟩
theorem bQ.length {K:Kw} {G H:Hp}:∀ {f:Str} {s:Sh} {xs:List (Str×V)} {ds:List D} {fp:List Addr},bQ K G H f s xs ds fp->xs.length=ds.length
 | _,_,_,_,_, .nil=>rfl
 | _,_,_,_,_, .im _ _ b=>congrArg (· + 1) b.length
 | _,_,_,_,_, .ow _ b=>congrArg (· + 1) b.length
theorem bQ.push {K:Kw} {G H:Hp} {g:Str} {v:V} {d:D} (r:Rep K G v d):∀ {f:Str} {s:Sh} {xs:List (Str×V)} {ds:List D} {fp:List Addr},g ≠ f->bQ K G H f s xs ds fp->bQ K G H f s (xs++[(g,v)]) (ds++[d]) fp
 | _,_,_,_,_,ne, .nil => .im ne r .nil
 | _,_,_,_,_,ne, .im a b c => .im a b (bQ.push r ne c)
 | _,_,_,_,_,ne, .ow a b => .ow a (bQ.push r ne b)
theorem Rep.obj {K:Kw} {G:Hp} {v:V} {c:Str} {FS:List Str} {l:List D} (h:Rep K G v (.ob c FS l)) (hn:∀ C,K.mg c=some (.ref C)->Cls K.k C):∃ p C dx xs,v = .ref p/\K.mg c=some (.ref C)/\G p=some (.ins C dx xs)/\FS=xs.map (·.1)/\au K G (xs.map (·.2)) l:=by
 generalize hd:D.ob c FS l=d at h
 cases h with
 | ob a b r=>cases hd; exact ⟨_,_,_,_,rfl,a,b,rfl,r⟩
 | xo a g b d r=>
  cases hd
  have z:=(hn _ a).pg
  unfold PySem.W.plainGet at z
  rw [g,Bool.and_eq_true,beq_iff_eq] at z
  exact absurd z.1 (by decide +kernel)
 | _=>cases hd
theorem Own.obj {K:Kw} {G H:Hp} {f:Str} {s:Sh} {v:V} {d:D} {fp:List Addr} (h:Own K G H (.ob f s) v d fp):∃ p C dx c xs l fq,v = .ref p/\d = .ob c (xs.map (·.1)) l/\H p=some (.ins C dx xs)/\H dx=some (.own p)/\K.mg c=some (.ref C)/\bQ K G H f s xs l fq/\fp=p :: dx :: fq:=by
 generalize hs:Sh.ob f s=s' at h
 cases h with
 | ob a b m fl=>cases hs; exact ⟨_,_,_,_,_,_,_,rfl,rfl,a,b,m,fl,rfl⟩
 | _=>cases hs
section
variable {X:Cx} {W:WX} {o e:Expr} {A B:AE} {pins:List (Addr×Obj)} {s:Shared} {σ:L2.St} {G H:Hp} {pin:L2.St} {own:List (List Addr)} {ss ss':List SD} {pos apos:Pos}
def ace (c:Str) (FS:List Str):Rv->Prop
 | .im (.ob c' fs _)=>c'=c/\fs=FS
 | _=>False
instance (c:Str) (FS:List Str) (r:Rv):Decidable (ace c FS r):=by
 unfold ace
 split <;> infer_instance
end
end DL
namespace DL
open PySem PySem.Spec PyProof.Rows L2
end DL
namespace DL
open PySem PySem.Spec PyProof.Rows L2
end DL
namespace DL
open PySem PySem.Spec PyProof.Rows L2
structure YT (X:Cx) (D0:Addr) (G H:Hp) (own:List Addr) (acc:List (D×D)) (es:List (NestedKey×Addr×V)):Prop where
 h:H D0=some (NDO X.w D0 es)
 k1:(acc.map fun q=>nk q.1)=(es.map fun e=>some e.1)
 k2:au X.kw G (es.map fun e=>V.ref e.2.1) (acc.map (·.1))
 k3:au X.kw G (es.map (·.2.2)) (acc.map (·.2))
 o0:Pj [D0] G H own
section
variable {X:Cx} {W:WX} {e elt kx vx iter tg:Expr} {A B C E:AE} {I:AI} {g:GT} {pins:List (Addr×Obj)} {s:Shared} {σ:L2.St} {G H G1 H1:Hp} {pin:L2.St} {own own1:List (List Addr)} {ss ss':List SD} {pos:Pos}
theorem YT.step {D0:Addr} {own own':List Addr} {G H G' H':Hp} {acc:List (D×D)} {es:List (NestedKey×Addr×V)} (N:YT X D0 G H own acc es) (st:Step own G H own' G' H'):YT X D0 G' H' own' acc es:=by
 obtain ⟨o,k⟩:=N.o0.step st
 exact ⟨k D0 (List.mem_singleton.mpr rfl) _ N.h,N.k1,N.k2.mono st.g,N.k3.mono st.g,o⟩
end
end DL
namespace DL
open PySem PySem.Spec PyProof.Rows L2
end DL
namespace DL
open PySem PySem.Spec PyProof.Rows L2 PySem.Builtin PySem.Builtin.Str
def stW (a b:List Nat) (n:Nat):Bool:=decide (n+b.length≤a.length) && ((a.drop n).take b.length == b)
end DL
namespace DL
open PySem PySem.Spec PyProof.Rows L2 PySem.Builtin
end DL
namespace DL
open PySem PySem.Spec PyProof.Rows L2 PySem.Builtin
end DL
namespace DL
open PySem PySem.Spec PyProof.Rows L2 PySem.Builtin
end DL
namespace DL
open PySem PySem.Spec PyProof.Rows L2
end DL
namespace DL
open PySem PySem.Calls PyProof.Rows PySem.W
end DL
namespace DL
open PySem PySem.Spec PyProof.Rows L2
theorem Inv.track {X:Cx} {pins:List (Addr×Obj)} {σ:L2.St} {H:Hp} {s:Shared} {a:Addr} {o:HO} (I:Inv X pins σ H s) (hf:FpOk X pins H a) (hs:X.s_0.heap.objs.size≤a) (new:ObjOk X.prog X.w (upd H a o) s.heap a o):Inv X pins σ (upd H a o) s:=by
 obtain ⟨f0,f1,f2,f3,f4,f5⟩:=hf
 have old:∀ b u,X.s_0.heap.get? b=some u->b ≠ a:=fun b u e=>Nat.ne_of_lt (Nat.lt_of_lt_of_le (Heap.lt_size e) hs)
 refine ⟨I.ok,I.os,I.bare,⟨I.base.keep,I.base.slot,fun b u e n hx=>?_,I.base.there,fun b xs e=>?_,fun b v u e=>?_,fun b ps e=>?_⟩,I.loc,I.cell,?_,fun x c e=>?_,fun p hp=>?_,fun b u e=>?_,I.len⟩
 ·rw [upd_ne (old b u e)]; exact I.base.free b u e n hx
 ·have q:=I.base.tups b xs e
  rw [upd_ne (ne_of_none q f0)]; exact q
 ·have q:=I.base.frzs b v u e
  rw [upd_ne (ne_of_none q f0)]; exact q
 ·obtain ⟨more,q⟩:=I.base.tbls b ps e
  exact ⟨more,by rw [upd_ne (ne_of_none q f0)]; exact q⟩
 ·rw [upd_ne (Ne.symm f1)]; exact I.free
 ·rw [upd_ne (f4 x c e)]; exact I.freeC x c e
 ·obtain ⟨q1,q2,q3⟩:=I.pin p hp
  exact ⟨q1,by rw [upd_ne (f5 p hp)]; exact q2,q3⟩
 ·by_cases hb:b=a
  ·subst hb
   rw [upd_same] at e
   cases e
   exact new
  ·rw [upd_ne hb] at e
   exact (I.hok b u e).stay (fun _ _ _ z=>z) (fun d z=>by rw [upd_ne (ne_of_none z f0)]; exact z) fun d xs z=>by rw [upd_ne (ne_of_none z f0)]; exact z
end DL
namespace DL
open PySem PySem.Spec PySem.Calls PyProof.Rows L2
end DL
namespace DL
open PySem PySem.Spec PySem.Calls PyProof.Rows L2
end DL
namespace DL
open PySem PySem.Spec PyProof.Rows L2 PySem.Builtin
end DL
namespace DL
open PySem PySem.Spec PyProof.Rows L2
end DL
namespace L2
open PySem PySem.Spec PyProof.Rows HandSPX
section
variable {X:Cx}
theorem YW {C:Addr} {bmB:List Value} {B newId initId:String} {x:Str} {p pos:Pos} (F:ExcBaseFacts B newId initId bmB) (q:PySem.W.excIn X.K C bmB newId=true) (gC:X.mg x=some (.ref C)) (kC:PySem.W.keepIn X.K (.ref C)=true) (r:Raises X (.ref C)) (hg:Gl X x)
  (hdb:(x == ("__debug__" : Str))=false:=by decide):PMk X (.Call (.Name x p) [] [] pos) (fun _ H Q=>Q (.ref C) none H):=by
 intro pins s σ H Q I h
 refine wpAny_Call_Name_kw (ld_glob I hg gC ?_ hdb)
 refine PySem.W.callWith_K0 I.kIn kC ?_
 show wpAny _ _ (call (.ref C) []) _ _ _
 obtain ⟨bm,N,nm,qn,bs,hdct,sn,sub,ab,col,dd,k0,k1,k2,k3,k5,mN,hC,hN,hni,T⟩:=exc_obj I.kIn q
 refine wpAny_call_exc_subT F T hC hN hni (fun h' e hm=>?_) (Nat.zero_le _)
 exact mk_of I hm r h (I.hok.gone hm.new)
end
end L2
namespace DL
open PySem PySem.Spec PyProof.Rows L2 HandSPX
structure UL (K:PySem.W.Frag) (mg:Str->Option Value) (cn:Str) (C:Addr):Prop where
 gC:mg cn=some (.ref C)
 kC:PySem.W.keepIn K (.ref C)=true
 inC:PySem.W.excIn K C [.type "Exception", .type "BaseException", .type "object"] "Exception.__new__" = true
 exC:PySem.W.subIn K (.ref C) (.type "BaseException")=some true
 tyC:PySem.W.typeIn K (.ref C)=some (.type "type")
 te:PySem.W.exmOne K (.ref C) (.ref C)=some true
def Ij (cn:Str):AS:=fun _ ss => .exc cn [] ss
section
variable {X:Cx} {W:WX} {st:Stmt} {sts:List Stmt} {S T:AS} {e a b c:Expr} {A B:AE} {pins:List (Addr×Obj)} {s:Shared} {σ:L2.St} {G H:Hp} {pin:L2.St} {own:List (List Addr)} {ss ss':List SD} {pos:Pos} {cn qn:Str} {C fI:Addr}
theorem Xb {p pos2:Pos} (hc:X.calm=true) (T:UL X.K X.mg cn C) (tk:Takes X W) (hg:Gl X cn) (hdb:(cn == ("__debug__" : Str))=false:=by decide) :
  DS X W (.Raise (some (.Call (.Name cn p) [] [] pos)) none pos2) (Ij cn):=
 DS.of (ps_raise hc tk (YW F.excBase_Exception T.inC T.gC T.kC (raises_own T.exC T.tyC) hg hdb)) fun n σ H pin G own ss D' F w k=>by
  obtain ⟨C',h1,h2⟩:=w
  rw [T.gC] at h1; cases h1
  exact h2 none σ G own H (Step.refl _ _ _) F (.inl ⟨rfl,rfl⟩)
end
end DL
namespace DL
open PySem PySem.Spec PyProof.Rows L2
theorem bQ.set {K:Kw} {G H:Hp} {g:Str} {v:V} {d:D} (r:Rep K G v d):∀ {f:Str} {s:Sh} {xs:List (Str×V)} {ds:List D} {fp:List Addr} {n:Nat},g ≠ f->bQ K G H f s xs ds fp->(xs.map (·.1))[n]? = some g->g ∉ (xs.map (·.1)).take n->bQ K G H f s (putF g v xs) (ds.set n d) fp
 | _,_,_,_,_,n,_, .nil,h,_=>by simp at h
 | _,_,(g0,x0) :: xs,_,_,0,_, .im ne r0 b,h,_=>by
  simp at h
  subst h
  show bQ K G H _ _ (if g0=g0 then (g0,v) :: xs else (g0,x0) :: putF g0 v xs) _ _
  rw [if_pos rfl]
  exact .im ne r b
 | _,_,_,_,_,0,ne, .ow a b,h,_=>by simp at h; exact absurd h.symm ne
 | _,_,(g0,x0) :: xs,_,_,n+1,ne, .im ne0 r0 b,h,hn=>by
  have hn':g ∉ g0 :: (xs.map (·.1)).take n:=hn
  have c:¬ g0=g:=fun z=>hn' (by rw [z]; exact List.mem_cons_self)
  show bQ K G H _ _ (if g0=g then (g0,v) :: xs else (g0,x0) :: putF g v xs) _ _
  rw [if_neg c]
  exact .im ne0 r0 (bQ.set r ne b (by simpa using h) fun z=>hn' (List.mem_cons_of_mem _ z))
 | _,_,(g0,x0) :: xs,_,_,n+1,ne, .ow a b,h,hn=>by
  have hn':g ∉ g0 :: (xs.map (·.1)).take n:=hn
  have c:¬ g0=g:=fun z=>hn' (by rw [z]; exact List.mem_cons_self)
  show bQ K G H _ _ (if g0=g then (g0,v) :: xs else (g0,x0) :: putF g v xs) _ _
  rw [if_neg c]
  exact .ow a (bQ.set r ne b (by simpa using h) fun z=>hn' (List.mem_cons_of_mem _ z))
end DL
namespace DL
open PySem PySem.Spec PyProof.Rows L2
end DL
namespace DL
open PySem PySem.Spec PyProof.Rows L2 HandSPX
end DL
namespace DL
open PySem PySem.Spec PyProof.Rows L2
end DL
namespace DL
open PySem PySem.Spec PyProof.Rows L2
end DL
namespace DL
open PySem PySem.Spec PyProof.Rows L2
end DL
namespace DL
open PySem PySem.Spec PySem.Calls PyProof.Rows L2
end DL
namespace DL
open PySem PySem.Spec PyProof.Rows L2
end DL
namespace SW
open PySem PySem.Spec PyProof.Rows L2 DL
def acf:D->Bool
 | .iH _ _=>false
 | .fz _=>false
 | .ob _ _ _=>false
 | _=>true
def isStr:D->Bool
 | .str _=>true
 | _=>false
def vN:D->Option (List D)
 | .lst l=>some l
 | .tup l=>some l
 | _=>none
def su (v:D) (lo hi:Int):Bool:=match v with
 | .int i=>decide (lo≤i) && decide (i≤hi)
 | _=>false
end SW
namespace SW
open PySem PySem.Spec PyProof.Rows L2 DL
theorem Xc {α:Type} {l:List α} {k:Nat}:atI l (k:Int)=l[k]?:=by
 cases h:l[k]? with
 | some x=>exact atI_nat h
 | none=>
  unfold atI ixN
  have hk:l.length≤k:=List.getElem?_eq_none_iff.mp h
  have h1:¬ ((k:Int) < 0):=by omega
  have h2:¬ ((k:Int) < l.length):=by omega
  simp [h1,h2]
  try omega
@[simp] theorem Pk {l:List D} {k:Nat} {x:D} (h:l[k]? = some x):gJ (.lst l) (.int (k:Int))=some x:=by
 show dO Mv (dO Lp Lq) _ _=_
 have e:Mv (.lst l) (.int (k:Int))=some x:=by
  show dO Dh (dO Jj Lf) _ _=_
  unfold dO Dh
  simp only [Xc,h]
 unfold dO
 rw [e]
@[simp] theorem Pn {l:List D} {k:Nat} {x:D} (h:l[k]? = some x):gJ (.tup l) (.int (k:Int))=some x:=by
 show dO Mv (dO Lp Lq) _ _=_
 have e:Mv (.tup l) (.int (k:Int))=some x:=by
  show dO Dh (dO Jj Lf) _ _=_
  unfold dO Dh Jj
  simp only [Xc,h]
 unfold dO
 rw [e]
theorem range_items {a b:Int} {n:Nat} (h:(b - a).toNat=n) (h1 : -(2 ^ 62)≤a) (h2:a < 2 ^ 62) (h3 : -(2 ^ 62)≤b) (h4:b < 2 ^ 62):qD a b=some ((List.range n).map fun (k:Nat) => .int (a+(k:Int))):=by
 unfold qD
 rw [if_pos ⟨h1,h2,h3,h4⟩,h]
theorem UW {g:GT} {B:AS} {n:Nat} (R:List SD->Prop) (p:D->Bool) (d0:D):∀ {l:List D} {s:List SD},R s ->
  (∀ x∈l,∀ s,R s->∃ s1 s2,g x s=some s1/\(if p x=true then B n s1 = .rt d0 s2/\R s2 else B n s1 = .nx s2/\R s2))->∃ s',(d9 g B n l s=if l.any p=true then .rt d0 s' else .nx s')/\R s'
 | [],s,h,_=>⟨s,rfl,h⟩
 | x :: l,s,h,st=>by
  obtain ⟨s1,s2,h1,h2⟩:=st x List.mem_cons_self s h
  by_cases c:p x=true
  ·rw [if_pos c] at h2
   refine ⟨s2,?_,h2.2⟩
   unfold d9
   rw [h1]
   simp only [h2.1]
   rw [if_pos (by simp [c])]
  ·rw [if_neg c] at h2
   obtain ⟨s',e,r⟩:=UW R p d0 h2.2 fun y hy=>st y (List.mem_cons_of_mem _ hy)
   refine ⟨s',?_,r⟩
   unfold d9
   rw [h1]
   simp only [h2.1,e]
   have:(x :: l).any p=l.any p:=by simp [c]
   rw [this]
def jZ {α:Type} (p:α->α->Bool):List α->Bool
 | a :: b :: r=>p a b && jZ p (b :: r)
 | _=>true
def ltB (a b:D):Bool:=match Zw a b with
 | some (.bl x)=>x
 | _=>false
end SW
namespace SW
open PySem PySem.Spec PyProof.Rows L2 DL
mutual
def jH:D->Bool
 | .iH _ _=>false
 | .fz _=>false
 | .ob _ _ _=>false
 | .str x=>pG x
 | .tup l=>decide (l.length≤sizeLine) && vq l
 | .lst l=>decide (l.length≤sizeLine) && vq l
 | _=>true
def vq:List D->Bool
 | []=>true
 | d :: l=>jH d && vq l
end
theorem Jt:∀ {l:List D} {x:D},vq l=true->x∈l->jH x=true
 | [],_,_,h=>absurd h List.not_mem_nil
 | d :: l,x,h,hx=>by
  have h':(jH d && vq l)=true:=h
  rw [Bool.and_eq_true] at h'
  rcases List.mem_cons.mp hx with e | e
  ·rw [e]; exact h'.1
  ·exact Jt h'.2 e
theorem U0:∀ {l:List D} {x:D},x∈l->D.dep x≤D.deps l
 | [],_,h=>absurd h List.not_mem_nil
 | d :: l,x,h=>by
  show D.dep x≤max (D.dep d) (D.deps l)
  rcases List.mem_cons.mp h with e | e
  ·rw [e]; omega
  ·have:=U0 e; omega
theorem U3 {v:D} {l:List D} (h:jH v=true) (hl:vN v=some l):l.length≤sizeLine/\vq l=true/\D.dep v=D.deps l+1/\v.items=some l/\acf v=true/\iI [v]=some (.int l.length):=by
 cases v <;> cases hl
 all_goals
  have h':(decide (l.length≤sizeLine) && vq l)=true:=h
  rw [Bool.and_eq_true,decide_eq_true_eq] at h'
  exact ⟨h'.1,h'.2,rfl,rfl,rfl,rfl⟩
mutual
def frz:D->D
 | .lst l => .tup (frzs l)
 | .tup l => .tup (frzs l)
 | d=>d
def frzs:List D->List D
 | []=>[]
 | d :: l=>frz d :: frzs l
end
theorem Pq:∀ l:List D,frzs l=l.map frz
 | []=>rfl
 | d :: l=>by rw [List.map_cons,<- Pq l]; rfl
theorem abk {v:D} {l:List D} (hl:vN v=some l):frz v = .tup (l.map frz):=by
 cases v <;> cases hl
 all_goals
  show D.tup (frzs l)=_
  rw [Pq]
theorem M6 {v:D} (hl:vN v=none):frz v=v:=by
 cases v <;> first | rfl | cases hl
def Ik (c:Nat):Bool:=decide (97≤c) && decide (c≤102)
def Oe:D->Bool
 | .str x=>x.all Ik
 | _=>false
theorem Xd {v:D} (h:jH v=true):(∃ b,D.zL .str v=some b/\b=isStr v)/\(∃ b,D.zL .int v=some b)/\(∃ b,D.zL .tuple v=some b)/\(∃ b,D.zL .list v=some b)/\(∃ b,D.zL .bool v=some b):=by
 cases v <;> first | exact ⟨⟨_,rfl,rfl⟩,⟨_,rfl⟩,⟨_,rfl⟩,⟨_,rfl⟩,⟨_,rfl⟩⟩ | (exfalso; simp [jH] at h)
def aeC:D->Int
 | .str x=>x.length
 | _=>0
def eY (v:D):Bool:=Oe v && decide (aeC v≤2)
def oJ (v:D):Bool:=match vN v with
 | some [a,b,c]=>eY a && eY b && !D.eqv a b && su c 1 9
 | _=>false
theorem Pr {a:D} (h:Oe a=true):∃ x,a = .str x:=by
 cases a with
 | str x=>exact ⟨x,rfl⟩
 | _=>cases h
end SW
namespace SW
open PySem PySem.Spec PyProof.Rows L2 DL
def Cy (l:List D):Bool:=decide (l.eraseDups.length=l.length)
theorem Lz (a b:Int):tH (.int a) (.int b)=some (.bl (decide (a=b))):=by
 show (if D.dep (.int a)≤60/\D.dep (.int b)≤60 then some (D.bl (D.eqv (.int a) (.int b))) else none)=_
 rw [if_pos ⟨Nat.zero_le 60,Nat.zero_le 60⟩]
 show some (D.bl (a == b))=_
 congr 1
def cW:D->D
 | .tup r => .tup (r.take 2)
 | d=>d
def Gk (v:D):Bool:=match vN v with
 | some l=>decide (l.length≤8) && l.all oJ && jZ ltB (l.map frz) && Cy ((l.map frz).map cW)
 | none=>false
theorem M7 {x:List Nat} (h:x.all Ik=true) (hl:x.length≤2):pG x=true:=by
 unfold pG
 rw [Bool.and_eq_true,decide_eq_true_eq]
 refine ⟨List.all_eq_true.mpr fun c hc=>?_,Nat.le_trans hl (by decide)⟩
 have:=List.all_eq_true.mp h c hc
 unfold Ik at this
 rw [Bool.and_eq_true,decide_eq_true_eq,decide_eq_true_eq] at this
 exact decide_eq_true (by omega)
end SW
namespace SW
open PySem PySem.Spec PyProof.Rows L2 DL
mutual
def yS:D->D->Bool
 | .non,f=>match f with
  | .non=>true
  | _=>false
 | .tup l,f=>match f with
  | .tup m=>decide (m.length=l.length) && Gm l m
  | _=>false
 | .bl b,f=>match f with
  | .bl c=>c == b
  | _=>false
 | .int b,f=>match f with
  | .int c=>c == b
  | _=>false
 | .str b,f=>match f with
  | .str c=>c == b
  | _=>false
 | _,_=>false
def Gm:List D->List D->Bool
 | [],_=>true
 | a :: l,m=>match m with
  | b :: r=>yS a b && Gm l r
  | []=>true
end
theorem J5:∀ (l m:List D),m.length=l.length->Gm l m=(List.range l.length).all fun k=>yS (l.getD k default) (m.getD k default)
 | [],_,_=>rfl
 | a :: l,[],h=>by simp at h
 | a :: l,b :: m,h=>by
  show (yS a b && Gm l m)=_
  rw [J5 l m (by simpa using h),List.length_cons,List.range_succ_eq_map,List.all_cons,List.all_map]
  rfl
def eZ (k:Nat):FnD:=Fj fun f w=>if jH f=true/\jH w=true/\D.dep w < k then some (.bl (yS w f)) else none
def Du (k:Nat):AS:=
 (jh (jw (aCall (eZ k) [(aD gJ (ak 0) (ak 2)),(aD gJ (ak 1) (ak 2))])) (gH (aC (.bl false))) fU)
def gj (k:Nat):AS:=
 (cJ (jh (aD Ld (ak 1) (aC .non)) (gH (aD Ld (ak 0) (aC .non))) fU)
 (cJ (jh (oF .tuple (ak 1)) (cJ (jh (oA (jw (oF .tuple (ak 0))) (aD Fx (aFn iI [(ak 0)]) (aFn iI [(ak 1)]))) (gH (aC (.bl false))) fU)
 (cJ (tM (wG yM [(aFn iI [(ak 1)])]) (iZ 2) (Du k))
 (gH (aC (.bl true))))) fU)
 (cJ (jh (oA (oF .bool (ak 1)) (oF .bool (ak 0))) (gH (u9 (oF .bool (ak 1)) (u9 (oF .bool (ak 0)) (aD tH (ak 0) (ak 1))))) fU)
 (cJ (jh (oF .int (ak 1)) (gH (u9 (oF .int (ak 0)) (aD tH (ak 0) (ak 1)))) fU)
 (gH (u9 (oF .str (ak 1)) (u9 (oF .str (ak 0)) (aD tH (ak 0) (ak 1)))))))))
theorem abl {g:D->D->Option D} (h:∀ a b,g a b=none) (ss:List SD):Fj g ss = .bad:=by
 unfold Fj
 split
 ·rw [h]
 ·rfl
theorem Vt:∀ ss,eZ 0 ss = .bad:=abl fun f w=>if_neg (fun z=>Nat.not_lt_zero _ z.2.2)
theorem Xe (k:Nat):∀ ss,eZ k ss ≠ .bad->ss.length=2:=fun _=>aa2
theorem Gn {I:AI} {g:GT} {B:AS} {n:Nat} {ss s:List SD} {l:List D} (h:I ss = .val l s):tM I g B n ss=d9 g B n l s:=by
 unfold tM
 rw [h]
theorem Gp {i:Nat} {ss:List SD} {d:D} {sd:SD} (h:ss[i]? = some sd) (hn:∀ sh d,sd ≠ .ow true sh d):iZ i d ss=some (ss.set i (.im d)):=by
 unfold iZ
 rw [Jr h hn]
theorem Px {n:Nat} (h:n < 2 ^ 62):qD 0 (n:Int)=some ((List.range n).map fun (k:Nat) => .int (k:Int)):=by
 have:=range_items (a:=0) (b:=(n:Int)) (n:=n) (by omega) (by decide) (by decide) (by omega) (by omega)
 have e:(fun (k:Nat)=>D.int (0+(k:Int)))=fun (k:Nat)=>D.int (k:Int):=by
  funext k
  rw [Int.zero_add]
 rw [this,e]
theorem Gq {l:List D} {k:Nat} (h:k < l.length):l[k]? = some (l.getD k default):=by
 rw [List.getD_eq_getElem?_getD,List.getElem?_eq_getElem h]; rfl
theorem Xf (k:Nat):∀ ss,eZ (k+1) ss ≠ .bad->∃ n,runB 3 (gj k) n ss=eZ (k+1) ss:=fun _=>aa5 fun f w d h=>by
 split at h
 ·rename_i c
  cases h
  obtain ⟨c1,c2,c3⟩:=c
  refine ⟨0,?_⟩
  cases w with
  | tup l=>
   obtain ⟨z1,z2,z3,z4,_,zl⟩:=U3 c2 (l:=l) rfl
   by_cases hf:∃ m,f = .tup m
   ·obtain ⟨m,rfl⟩:=hf
    obtain ⟨y1,y2,_,_,_,yl⟩:=U3 c1 (l:=m) rfl
    have ne:Pu (oA (jw (oF .tuple (ak 0))) (aD Fx (aFn iI [(ak 0)]) (aFn iI [(ak 1)]))) [.im (.tup m), .im (.tup l), .un] (.bl (!true || !decide (m.length=l.length))):=by
     refine ZP (Pb (JZ (bR rfl) rfl)) fun _=>?_
     have e:=bL (ss:=[.im (.tup m), .im (.tup l), .un]) (f:=Fx) (A:=aFn iI [(ak 0)]) (B:=aFn iI [(ak 1)]) (d:=.bl (!decide ((m.length:Int)=(l.length:Int)))) (jY (bR rfl) yl).rd (jY (bR rfl) zl).rd (by
      show (if _ then some (D.bl (!((m.length:Int) == (l.length:Int)))) else none)=_
      rw [if_pos ⟨Nat.zero_le 60,Nat.zero_le 60⟩]; rfl)
     have:decide ((m.length:Int)=(l.length:Int))=decide (m.length=l.length):=by
      by_cases q:m.length=l.length
      ·rw [decide_eq_true q,decide_eq_true (by omega)]
      ·rw [decide_eq_false q,decide_eq_false (by omega)]
     rw [<- this]; exact e
    have g1:jh (aD Ld (ak 1) (aC .non)) (gH (aD Ld (ak 0) (aC .non))) fU 0 [.im (.tup m), .im (.tup l), .un] = .nx [.im (.tup m), .im (.tup l), .un]:=tV (p:=false) (bL (bR rfl) eV.rd rfl) rfl rfl
    have it:Pu (oF .tuple (ak 1)) [.im (.tup m), .im (.tup l), .un] (.bl true):=JZ (bR rfl) rfl
    have sb:yS (.tup l) (.tup m)=(decide (m.length=l.length) && Gm l m):=rfl
    rw [sb]
    by_cases hlen:m.length=l.length
    ·
     rw [decide_eq_true hlen,Bool.true_and,J5 l m hlen]
     have hs:sizeLine < 2 ^ 62:=by decide
     have hr:=Px (n:=l.length) (by omega)
     have loop:=UW (g:=iZ 2) (B:=Du k) (n:=0) (fun s=>∃ x,s=[.im (.tup m), .im (.tup l),x]/\∀ sh d,x ≠ .ow true sh d) (fun x=>match x with | .int j=>!yS (l.getD j.toNat default) (m.getD j.toNat default) | _=>false) (.bl false) (l:=(List.range l.length).map fun (k:Nat) => .int (k:Int)) (s:=[.im (.tup m), .im (.tup l), .un]) ⟨_,rfl,fun _ _ z=>nomatch z⟩ (fun x hx s hs=>by
      obtain ⟨j,hj,rfl⟩:=List.mem_map.mp hx
      obtain ⟨x0,rfl,hx0⟩:=hs
      have hj':=List.mem_range.mp hj
      refine ⟨[.im (.tup m), .im (.tup l), .im (.int (j:Int))],[.im (.tup m), .im (.tup l), .im (.int (j:Int))],Gp rfl hx0,?_⟩
      have e1:Pu (jw (aCall (eZ k) [(aD gJ (ak 0) (ak 2)),(aD gJ (ak 1) (ak 2))])) [.im (.tup m), .im (.tup l), .im (.int (j:Int))] (.bl (!yS (l.getD j default) (m.getD j default))):=by
       refine Pb (YL (bL (bR rfl) (bR rfl) (Pn (Gq (by omega)))) (bL (bR rfl) (bR rfl) (Pn (Gq hj'))) (if_pos ⟨Jt y2 (List.mem_of_getElem? (Gq (by omega))),Jt z2 (List.mem_of_getElem? (Gq hj')),?_⟩))
       have:=U0 (List.mem_of_getElem? (Gq hj'))
       omega
      have tn:((j:Int)).toNat=j:=by omega
      simp only [tn]
      split
      ·rename_i q
       exact ⟨oH e1 q (st_ret eV),_,rfl,fun _ _ z=>nomatch z⟩
      ·rename_i q
       exact ⟨tV e1 (by simpa using q) rfl,_,rfl,fun _ _ z=>nomatch z⟩)
     obtain ⟨s',e,x',rfl,hx'⟩:=loop
     have fe:=(Gn (g:=iZ 2) (B:=Du k) (n:=0) (Lr (ss:=[.im (.tup m), .im (.tup l), .un]) (A:=aFn iI [(ak 1)]) (jY (bR rfl) zl).rd hr)).trans e
     have acg:((List.range l.length).map fun (k:Nat)=>D.int (k:Int)).any (fun x=>match x with | .int j=>!yS (l.getD j.toNat default) (m.getD j.toNat default) | _=>false) = !((List.range l.length).all fun k=>yS (l.getD k default) (m.getD k default)):=by
      rw [List.any_map,List.all_eq_not_any_not,Bool.not_not]
      rfl
     rw [acg] at fe
     cases hall:(List.range l.length).all fun k=>yS (l.getD k default) (m.getD k default) with
     | false=>
      rw [hall] at fe
      refine pA (s0:=[.im (.tup m), .im (.tup l), .un]) (s':=[.im (.tup m), .im (.tup l),x']) rfl ?_ rfl
      rw [gj,st_seq g1]
      refine lu (oH it rfl ?_)
      rw [st_seq (s:=[.im (.tup m), .im (.tup l), .un]) (tV ne (by rw [decide_eq_true hlen]; rfl) rfl)]
      exact lu fe
     | true=>
      rw [hall] at fe
      refine pA (s0:=[.im (.tup m), .im (.tup l), .un]) (s':=[.im (.tup m), .im (.tup l),x']) rfl ?_ rfl
      rw [gj,st_seq g1]
      refine lu (oH it rfl ?_)
      rw [st_seq (s:=[.im (.tup m), .im (.tup l), .un]) (tV ne (by rw [decide_eq_true hlen]; rfl) rfl)]
      rw [st_seq (s:=[.im (.tup m), .im (.tup l),x']) fe]
      exact st_ret eV
    ·rw [decide_eq_false hlen,Bool.false_and]
     refine pA (s0:=[.im (.tup m), .im (.tup l), .un]) (s':=[.im (.tup m), .im (.tup l), .un]) rfl ?_ rfl
     rw [gj,st_seq g1]
     refine lu (oH it rfl (lu (oH ne (by rw [decide_eq_false hlen]; rfl) (st_ret eV))))
   ·have sf:yS (.tup l) f=false:=by
     cases f <;> first | rfl | exact absurd ⟨_,rfl⟩ hf
    rw [sf]
    obtain ⟨_,_,⟨b,hb⟩,_⟩:=Xd c1
    have hb':b=false:=by
     cases f <;> first | (exfalso; exact absurd ⟨_,rfl⟩ hf) | (cases hb <;> rfl)
    subst hb'
    refine pA (s0:=[.im f, .im (.tup l), .un]) (s':=[.im f, .im (.tup l), .un]) rfl ?_ rfl
    rw [gj,st_seq (s:=[.im f, .im (.tup l), .un]) (tV (p:=false) (bL (bR rfl) eV.rd rfl) rfl rfl)]
    have ne:Pu (oA (jw (oF .tuple (ak 0))) (aD Fx (aFn iI [(ak 0)]) (aFn iI [(ak 1)]))) [.im f, .im (.tup l), .un] (.bl (!false || true)):=ZP (Pb (JZ (bR rfl) hb)) fun z=>nomatch z
    exact lu (oH (p:=true) (JZ (bR rfl) rfl) rfl (lu (oH ne rfl (st_ret eV))))
  | non=>cases f <;> first | rfl | (exfalso; simp [jH] at c1)
  | bl b=>cases f <;> first | rfl | (exfalso; simp [jH] at c1)
  | int i=>cases f <;> first | rfl | (exfalso; simp [jH] at c1)
  | str x=>cases f <;> first | rfl | (exfalso; simp [jH] at c1)
  | lst l=>cases f <;> first | rfl | (exfalso; simp [jH] at c1)
  | iH t l=>exfalso; simp [jH] at c2
  | fz l=>exfalso; simp [jH] at c2
  | ob _ _ _=>exfalso; simp [jH] at c2
 ·cases h
end SW
namespace SW
open PySem PySem.Spec PyProof.Rows L2 DL
section
variable {ss s1 s2 s3:List SD} {A B C:AE} {r a b c x:D} {n m:Int} {i0 i1:Nat} {io MJ:Bool}
theorem ade {j i:Nat} {F:FnD} {As:List AE} {rs:List Rv} {sh sh':Sh} {d d':D} {args z:List SD} {Vu:Bool} (hA:cM As ss = .val rs s1) (hj:rs[j]? = some (.sl i)) (hi:s1[i]? = some (.ow io sh d)) (ha:Ge rs j (.ow true sh d)=some args) (hF:F args = .ret x z) (hq:z[j]? = some (.ow Vu sh' d')) :
  mO j F As ss = .val (.im x) (s1.set i (.ow io sh' d')):=by
 rw [Vs,hA,rZ]
 unfold yP
 have e1:(s1[i]?).bind SD.own? = some (io,sh,d):=by rw [hi]; rfl
 have e2:(z[j]?).bind SD.own? = some (Vu,sh',d'):=by rw [hq]; rfl
 simp only [hj,e1,ha,hF,e2]
end
def draw (row:List Int) (at' limit:Int):Int:=
 if at' < row.length then row.getD at'.toNat 0 % limit
 else (((row.getD (at' % row.length).toNat 0 * 40692+at' * 7919+3) % 2147483399 * 48271+at') % 2147483647) % limit
theorem Dy (row:List Int) (n:Int) {limit:Int} (h:0 < limit):0≤draw row n limit/\draw row n limit < limit:=by
 unfold draw
 split
 ·exact ⟨Int.emod_nonneg _ (by omega),Int.emod_lt_of_pos _ h⟩
 ·exact ⟨Int.emod_nonneg _ (by omega),Int.emod_lt_of_pos _ h⟩
def bK (row:List Int):D:=.lst (row.map .int)
theorem Dz:∀ row:List Int,intsOf (row.map .int)=some row
 | []=>rfl
 | i :: r=>by rw [List.map_cons]; show (intsOf (r.map .int)).map _=_; rw [Dz r]; rfl
def rowOf:D->Option (List Int)
 | .lst l=>(intsOf l).bind fun row=>if 0 < row.length then some row else none
 | _=>none
theorem Gr:∀ {l:List D} {row:List Int},intsOf l=some row->l=row.map .int
 | [],row,h=>by cases h; rfl
 | d :: l,row,h=>by
  cases d <;> try cases h
  obtain ⟨m,hm,rfl⟩:=Option.map_eq_some_iff.mp h
  rw [Gr hm]; rfl
theorem Py {d:D} {row:List Int} (h:rowOf d=some row):d=bK row/\0 < row.length:=by
 unfold rowOf at h
 split at h
 ·obtain ⟨m,h1,h2⟩:=dY h
  have h3:(if 0 < m.length then some m else none)=some row:=h2
  split at h3
  ·cases h3
   exact ⟨by rw [Gr h1]; rfl,by assumption⟩
  ·cases h3
 ·cases h
theorem J8 {row:List Int} (h:0 < row.length):rowOf (bK row)=some row:=by
 unfold rowOf bK
 simp only [Dz,Option.bind_some]
 rw [if_pos h]
def IK (r a l:D):Option D:=(rowOf r).bind fun row=>match a,l with
 | .int a, .int l=>if 0≤a/\0 < l then some (.int (draw row a l)) else none
 | _,_=>none
def mQ:FnD:=JW IK
def qG:AS:=
 (cJ (jh (aD Zw (ak 1) (aFn iI [(ak 0)])) (gH (aD mU (aFn oE [(aD gJ (ak 0) (ak 1))]) (ak 2))) fU)
 (cJ (lF 3 (aD mU (aFn oE [(aD iV (aD iV (aD pQ (aD gJ (ak 0) (aD mU (aFn oE [(ak 1)]) (aFn iI [(ak 0)]))) (aC (.int 40692))) (aD pQ (ak 1) (aC (.int 7919)))) (aC (.int 3)))]) (aC (.int 2147483399))))
 (gH (aD mU (aFn oE [(aD mU (aFn oE [(aD iV (aD pQ (ak 3) (aC (.int 48271))) (ak 1))]) (aC (.int 2147483647)))]) (ak 2)))))
theorem RW:∀ ss,mQ ss ≠ .bad->ss.length=3:=fun _=>aa3
theorem U4 {row:List Int} {k:Int} (h0:0≤k) (h1:k < row.length):gJ (bK row) (.int k)=some (.int (row.getD k.toNat 0)):=by
 have hk:k.toNat < row.length:=by omega
 have e:k=((k.toNat:Nat):Int):=by omega
 have:(row.map D.int)[k.toNat]? = some (.int (row.getD k.toNat 0)):=by
  rw [List.getElem?_map,List.getElem?_eq_getElem hk,List.getD_eq_getElem?_getD,List.getElem?_eq_getElem hk]; rfl
 have z:=Pk (l:=row.map .int) (k:=k.toNat) this
 rw [<- e] at z
 exact z
theorem oK {i j:Int} (h:0 < j):mU (.int i) (.int j)=some (.int (i % j)):=by
 show (if 0 < j then some (D.int (i % j)) else none)=_
 rw [if_pos h]
theorem Cz {i j:Int} (h : -(2 ^ 64) < j/\j < 2 ^ 64):pQ (.int i) (.int j)=some (.int (i * j)):=by
 show (if (-(2 ^ 64) < i/\i < 2 ^ 64)\/(-(2 ^ 64) < j/\j < 2 ^ 64) then some (D.int (i * j)) else none)=_
 rw [if_pos (.inr h)]
theorem vA {i j:Int}:iV (.int i) (.int j)=some (.int (i+j)):=rfl
theorem RX:∀ ss,mQ ss ≠ .bad->∃ n,runB 4 qG n ss=mQ ss:=fun _=>aa6 fun r a l d h=>by
 unfold IK at h
 obtain ⟨row,hr,h2⟩:=dY h
 obtain ⟨rfl,hpos⟩:=Py hr
 cases a <;> try cases h2
 rename_i a
 cases l <;> try cases h2
 rename_i l
 have h3:(if 0≤a/\0 < l then some (D.int (draw row a l)) else none)=some d:=h2
 split at h3
 ·rename_i c
  cases h3
  refine ⟨0,?_⟩
  have hl:∀ ss:List SD,ss[0]? = some (.im (bK row))->Pu (aFn iI [(ak 0)]) ss (.int (row.length:Int)):=fun ss h0=>jY (Gh h0).rd (by
   show some (D.int ((row.map D.int).length:Int))=_
   rw [List.length_map])
  have cond:Pu (aD Zw (ak 1) (aFn iI [(ak 0)])) [.im (bK row), .im (.int a), .im (.int l), .un] (.bl (decide (a < (row.length:Int)))):=bL (bR rfl) (hl _ rfl).rd rfl
  unfold draw
  by_cases q:a < (row.length:Int)
  ·rw [if_pos q]
   refine pA (s0:=[.im (bK row), .im (.int a), .im (.int l), .un]) (s':=[.im (bK row), .im (.int a), .im (.int l), .un]) rfl (lu (oH cond (decide_eq_true q) (st_ret ?_))) rfl
   exact bL (jY (bL (bR rfl) (bR rfl) (U4 c.1 q)).rd rfl).rd (bR rfl) (oK c.2)
  ·rw [if_neg q]
   have hL:(0:Int) < (row.length:Int):=by omega
   have m1:Pu (aD mU (aFn oE [(ak 1)]) (aFn iI [(ak 0)])) [.im (bK row), .im (.int a), .im (.int l), .un] (.int (a % (row.length:Int))):=bL (jY (bR rfl) rfl).rd (hl _ rfl).rd (oK hL)
   have m2:=bL (ss:=[.im (bK row), .im (.int a), .im (.int l), .un]) (A:=ak 0) (bR rfl) m1.rd (U4 (Int.emod_nonneg _ (by omega)) (Int.emod_lt_of_pos _ hL))
   have m3:=bL (f:=pQ) m2.rd (eV (d:=.int 40692)).rd (Cz (by decide))
   have m4:Pu (aD pQ (ak 1) (aC (.int 7919))) [.im (bK row), .im (.int a), .im (.int l), .un] (.int (a * 7919)):=bL (bR rfl) eV.rd (Cz (by decide))
   have m5:=bL (f:=iV) (bL (f:=iV) m3.rd m4.rd vA).rd (eV (d:=.int 3)).rd vA
   have m6:=bL (f:=mU) (jY (g:=oE) m5.rd rfl).rd (eV (d:=.int 2147483399)).rd (oK (by decide))
   refine pA (s0:=[.im (bK row), .im (.int a), .im (.int l), .un]) (s':=[.im (bK row), .im (.int a), .im (.int l), .im (.int ((row.getD (a % (row.length:Int)).toNat 0 * 40692+a * 7919+3) % 2147483399))]) rfl ?_ rfl
   rw [qG,st_seq (s:=[.im (bK row), .im (.int a), .im (.int l), .un]) (tV cond (decide_eq_false q) rfl)]
   rw [st_seq (st_set (sd:=.un) m6 rfl (fun sh d z=>nomatch z))]
   exact st_ret (bL (jY (bL (jY (bL (bL (bR rfl) eV.rd (Cz (by decide))).rd (bR rfl) vA).rd rfl).rd eV.rd (oK (by decide))).rd rfl).rd (bR rfl) (oK c.2))
 ·cases h3
def qH (r l:D) (n:Int):Option (D×Int):=(rowOf r).bind fun row=>match l with
 | .int l=>if 0≤n/\0 < l then some (.int (draw row n l),n+1) else none
 | _=>none
def fB:FnD:=Ln qH
def jN:AS:=
 (cJ (yO 1 0 (aD iV (aD gJ (ak 1) (aC (.int 0))) (aC (.int 1))))
 (gH (aCall mQ [(ak 0),(aD Ji (aD gJ (ak 1) (aC (.int 0))) (aC (.int 1))),(ak 2)])))
theorem R3:∀ ss,fB ss ≠ .bad->ss.length=3:=fun _=>YD
theorem U5 {A:AE} {ss:List SD} {n:Int} (h:Aa A ss (.lst [.int n])):Pu (aD gJ A (aC (.int 0))) ss (.int n):=bL h eV.rd (Pk (k:=0) rfl)
theorem R4:∀ ss,fB ss ≠ .bad->∃ n,runB 3 jN n ss=fB ss:=fun _=>YF fun r l n d m h=>by
 unfold qH at h
 obtain ⟨row,hr,h2⟩:=dY h
 obtain ⟨rfl,hpos⟩:=Py hr
 cases l <;> try cases h2
 rename_i l
 have h3:(if 0≤n/\0 < l then some (D.int (draw row n l),n+1) else none)=some (d,m):=h2
 split at h3
 ·rename_i c
  cases h3
  refine ⟨0,?_⟩
  have e1:Pu (aD iV (aD gJ (ak 1) (aC (.int 0))) (aC (.int 1))) [.im (bK row),tR n, .im (.int l)] (.int (n+1)):=bL (U5 (bR rfl)).rd eV.rd rfl
  have s1:yO 1 0 (aD iV (aD gJ (ak 1) (aC (.int 0))) (aC (.int 1))) 0 [.im (bK row),tR n, .im (.int l)] = .nx [.im (bK row),tR (n+1), .im (.int l)]:=by
   unfold yO
   rw [show (aD iV (aD gJ (ak 1) (aC (.int 0))) (aC (.int 1))) [.im (bK row),tR n, .im (.int l)]=_ from e1,Cv]
   rfl
  have e2:Pu (aD Ji (aD gJ (ak 1) (aC (.int 0))) (aC (.int 1))) [.im (bK row),tR (n+1), .im (.int l)] (.int n):=by
   have:=bL (f:=Ji) (U5 (A:=ak 1) (ss:=[.im (bK row),tR (n+1), .im (.int l)]) (n:=n+1) (bR rfl)).rd (eV (d:=.int 1)).rd (d:=.int (n+1 - 1)) rfl
   rwa [show n+1 - 1=n by omega] at this
  refine pA (s0:=[.im (bK row),tR n, .im (.int l)]) (s':=[.im (bK row),tR (n+1), .im (.int l)]) rfl ?_ rfl
  rw [jN,st_seq s1]
  refine st_ret (YM (Gh rfl) e2 (Gh rfl) ?_)
  show (rowOf (bK row)).bind _=_
  rw [J8 hpos,Option.bind_some]
  show (if 0≤n/\0 < l then some (D.int (draw row n l)) else none)=_
  rw [if_pos c]
 ·cases h3
end SW
namespace SW
open PySem PySem.Spec PyProof.Rows L2 DL
end SW
namespace SW
open PySem PySem.Spec PyProof.Rows L2 DL
end SW
namespace SW
open PySem PySem.Spec PyProof.Rows L2 DL
theorem ach {f:F2} {A B:AE} {ss s1 s2:List SD} {r1 r2:Rv} {a b d:D} (hA:A ss = .val r1 s1) (hB:B s1 = .val r2 s2) (ga:r1.get s2=some a) (gb:r2.get s2=some b) (h:f a b=some d):aD f A B ss = .val (.im d) s2:=by
 rw [Ux,hA,rJ,hB,rJ,ga,Option.bind_some,gb,Option.bind_some,h]; rfl
theorem abm {i n:Nat} {A:AE} {ss s1:List SD} {d:D} {sd:SD} (h:A ss = .val (.im d) s1) (hi:s1[i]? = some sd) (hn:∀ sh d,sd ≠ .ow true sh d):lF i A n ss = .nx (s1.set i (.im d)):=by
 rw [Uz,h,Cv]
 exact Jr hi hn
end SW
namespace SW
open PySem PySem.Spec PyProof.Rows L2 DL
end SW
namespace SW
open PySem PySem.Spec PyProof.Rows L2 DL
end SW
namespace SW
open PySem PySem.Spec PyProof.Rows L2 DL
def keyD (a b:List Nat):D:=.tup [.str a, .str b]
end SW
namespace SW
open PySem PySem.Spec PyProof.Rows L2 DL
def digs:Nat->Int->List Int
 | 0,_=>[]
 | m+1,left=>if left=0 then [] else (left % 997) :: digs m (left / 997)
def xM (cell k:Int):Int:=((cell * 48271+k * 69621+11) % 2147483647 * 16807+k) % 2147483629
def Vv:Int:=(10:Int) ^ (18:Int).toNat
def rK (cell:Int):List Int:=if Vv≤cell then digs 60 cell else (List.range 4).map fun (k:Nat)=>xM cell (k:Int)
def numsOf (ns:List Int):List Int:=(ns.take 63).flatMap rK
def ji (ns:List Int):List Int:=if (numsOf ns).length=0 then [0] else numsOf ns
theorem PN:∀ (m:Nat) (left:Int),(digs m left).length≤m
 | 0,_=>Nat.le_refl _
 | m+1,left=>by
  unfold digs
  split
  ·exact Nat.zero_le _
  ·have:=PN m (left / 997)
   rw [List.length_cons]; omega
theorem P0 (c:Int):(rK c).length≤60:=by
 unfold rK
 split
 ·exact PN 60 c
 ·rw [List.length_map,List.length_range]; decide
theorem NK (ns:List Int):0 < (ji ns).length:=by
 unfold ji
 split
 ·decide
 ·omega
def CG (v:D):Option D:=match v with
 | .fz l=>(intsOf l).bind fun ns=>some (bK (ji ns))
 | _=>none
def gK:FnD:=MN CG
def iJ:AS:=
 (cJ (jh (aD tH (ak 3) (aC (.int 0))) Ys fU)
 (cJ (mK 1 (aD mU (aFn oE [(ak 3)]) (aC (.int 997))))
 (lF 3 (aD NZ (ak 3) (aC (.int 997))))))
def jJ:AS:=
 (cJ (lF 5 (aD mU (aFn oE [(aD iV (aD iV (aD pQ (ak 2) (aC (.int 48271))) (aD pQ (ak 4) (aC (.int 69621)))) (aC (.int 11)))]) (aC (.int 2147483647))))
 (mK 1 (aD mU (aFn oE [(aD iV (aD pQ (ak 5) (aC (.int 16807))) (ak 4))]) (aC (.int 2147483629)))))
def nY:AS:=
 (jh (aD dGe (ak 2) (aD Vj (aC (.int 10)) (aC (.int 18)))) (cJ (lF 3 (ak 2))
 (tM (wG yM [(aC (.int 60))]) (iZ 4) iJ)) (tM (wG yM [(aC (.int 4))]) (iZ 4) jJ))
def j5:AS:=
 (cJ (zN 1 (rF []))
 (cJ (tM (yL (Mw (ak 0) none (some (aC (.int 63))))) (iZ 2) nY)
 (cJ (jh (aD tH (aFn iI [(ak 1)]) (aC (.int 0))) (mK 1 (aC (.int 0))) fU)
 (gH (ZG 1)))))
theorem LC:∀ ss,gK ss ≠ .bad->ss.length=1:=fun _=>aa1
abbrev oL (acc:List Int):SD:=.ow false (.lst .im) (.lst (acc.map .int))
def tW (x:SD):Prop:=∀ sh d,x ≠ .ow true sh d
theorem wJ {d:D}:tW (.im d):=fun sh d z=>nomatch z
theorem J9:tW .un:=fun sh d z=>nomatch z
theorem Gu {ss:List SD} {i n:Nat} {A:AE} {io:Bool} {l:List D} {d:D} (h:Pu A ss d) (hi:ss[i]? = some (.ow io (.lst .im) (.lst l))) (hl:l.length < sizeLine):mK i A n ss = .nx (ss.set i (.ow io (.lst .im) (.lst (l++[d])))):=by
 have e:zU ss i=some (io,l):=by
  unfold zU
  rw [hi]; rfl
 unfold mK
 rw [e]
 show (if true=true then _ else _)=_
 rw [if_pos rfl,show A ss=_ from h,Cv]
 show cA.JT (Ig i ss d)=_
 unfold Ig
 rw [e,Option.bind_some,if_pos hl]; rfl
theorem loop1 {sc c:SD} {x5:SD}:∀ (l:List D) (left:Int) (acc:List Int) (x4:SD),acc.length+l.length < 5000->tW x4->∃ z3 z4,tW z3/\tW z4 /\
  d9 (iZ 4) iJ 0 l [sc,oL acc,c, .im (.int left),x4,x5] = .nx [sc,oL (acc++digs l.length left),c,z3,z4,x5]
 | [],left,acc,x4,_,h4=>⟨.im (.int left),x4,wJ,h4,by show _=cA.nx [sc,oL (acc++[]),c, .im (.int left),x4,x5]; rw [List.append_nil]; rfl⟩
 | y :: l,left,acc,x4,hl,h4=>by
  rw [List.length_cons] at hl
  have g:iZ 4 y [sc,oL acc,c, .im (.int left),x4,x5]=some [sc,oL acc,c, .im (.int left), .im y,x5]:=Gp rfl h4
  have q:Pu (aD tH (ak 3) (aC (.int 0))) [sc,oL acc,c, .im (.int left), .im y,x5] (.bl (decide (left=0))):=bL (bR rfl) eV.rd (Lz _ _)
  have sz:5000≤sizeLine:=by decide
  unfold d9
  rw [g]
  simp only
  rw [List.length_cons]
  unfold digs
  by_cases h0:left=0
  ·rw [if_pos h0]
   have t:iJ 0 [sc,oL acc,c, .im (.int left), .im y,x5] = .bk [sc,oL acc,c, .im (.int left), .im y,x5]:=Xa (oH q (decide_eq_true h0) rfl)
   rw [t]
   exact ⟨.im (.int left), .im y,wJ,wJ,by simp⟩
  ·rw [if_neg h0]
   have a1:Pu (aD mU (aFn oE [(ak 3)]) (aC (.int 997))) [sc,oL acc,c, .im (.int left), .im y,x5] (.int (left % 997)):=bL (jY (bR (i:=3) (d:=.int left) rfl) rfl).rd eV.rd (oK (by decide))
   have t1:mK 1 (aD mU (aFn oE [(ak 3)]) (aC (.int 997))) 0 [sc,oL acc,c, .im (.int left), .im y,x5] = .nx [sc,oL (acc++[left % 997]),c, .im (.int left), .im y,x5]:=by
    have:=Gu (i:=1) (n:=0) a1 rfl (by rw [List.length_map]; omega)
    rw [this]
    show cA.nx [sc, .ow false (.lst .im) (.lst (acc.map D.int++[D.int (left % 997)])),c, .im (.int left), .im y,x5]=_
    rw [show acc.map D.int++[D.int (left % 997)]=(acc++[left % 997]).map D.int by rw [List.map_append]; rfl]
   have a2:Pu (aD NZ (ak 3) (aC (.int 997))) [sc,oL (acc++[left % 997]),c, .im (.int left), .im y,x5] (.int (left / 997)):=bL (bR rfl) eV.rd (by
    show (if (0:Int) < 997/\(997:Int) < 1073741824 then some (D.int (left / 997)) else none)=_
    rw [if_pos ⟨by decide,by decide⟩])
   have t:iJ 0 [sc,oL acc,c, .im (.int left), .im y,x5] = .nx [sc,oL (acc++[left % 997]),c, .im (.int (left / 997)), .im y,x5]:=by
    rw [iJ,st_seq (s:=[sc,oL acc,c, .im (.int left), .im y,x5]) (tV q (decide_eq_false h0) rfl),st_seq t1]
    exact st_set (sd:=.im (.int left)) a2 rfl wJ
   rw [t]
   obtain ⟨z3,z4,e3,e4,e⟩:=loop1 l (left / 997) (acc++[left % 997]) (.im y) (by simp; omega) wJ
   refine ⟨z3,z4,e3,e4,?_⟩
   rw [show acc++(left % 997) :: digs l.length (left / 997)=(acc++[left % 997])++digs l.length (left / 997) by simp]
   exact e
theorem Ka {sc:SD} {cell:Int} {x3:SD}:∀ (m j:Nat) (acc:List Int) (x4 x5:SD),acc.length+m < 5000->tW x4->tW x5->∃ z4 z5,tW z4/\tW z5 /\
  d9 (iZ 4) jJ 0 ((List.range' j m).map fun (k:Nat) => .int (k:Int)) [sc,oL acc, .im (.int cell),x3,x4,x5] = .nx [sc,oL (acc++(List.range' j m).map fun (k:Nat)=>xM cell (k:Int)), .im (.int cell),x3,z4,z5]
 | 0,j,acc,x4,x5,_,h4,h5=>⟨x4,x5,h4,h5,by show _=cA.nx [sc,oL (acc++[]), .im (.int cell),x3,x4,x5]; rw [List.append_nil]; rfl⟩
 | m+1,j,acc,x4,x5,hl,h4,h5=>by
  rw [List.range'_succ,List.map_cons,List.map_cons]
  have g:iZ 4 (.int (j:Int)) [sc,oL acc, .im (.int cell),x3,x4,x5]=some [sc,oL acc, .im (.int cell),x3, .im (.int (j:Int)),x5]:=Gp rfl h4
  have sz:5000≤sizeLine:=by decide
  have m1:Pu (aD mU (aFn oE [(aD iV (aD iV (aD pQ (ak 2) (aC (.int 48271))) (aD pQ (ak 4) (aC (.int 69621)))) (aC (.int 11)))]) (aC (.int 2147483647))) [sc,oL acc, .im (.int cell),x3, .im (.int (j:Int)),x5] (.int ((cell * 48271+(j:Int) * 69621+11) % 2147483647)):=
   bL (jY (bL (bL (bL (bR rfl) eV.rd (Cz (by decide))).rd (bL (bR rfl) eV.rd (Cz (by decide))).rd vA).rd eV.rd vA).rd rfl).rd eV.rd (oK (by decide))
  have t1:lF 5 (aD mU (aFn oE [(aD iV (aD iV (aD pQ (ak 2) (aC (.int 48271))) (aD pQ (ak 4) (aC (.int 69621)))) (aC (.int 11)))]) (aC (.int 2147483647))) 0 [sc,oL acc, .im (.int cell),x3, .im (.int (j:Int)),x5] = .nx [sc,oL acc, .im (.int cell),x3, .im (.int (j:Int)), .im (.int ((cell * 48271+(j:Int) * 69621+11) % 2147483647))]:=st_set m1 rfl h5
  have m2:Pu (aD mU (aFn oE [(aD iV (aD pQ (ak 5) (aC (.int 16807))) (ak 4))]) (aC (.int 2147483629))) [sc,oL acc, .im (.int cell),x3, .im (.int (j:Int)), .im (.int ((cell * 48271+(j:Int) * 69621+11) % 2147483647))] (.int (xM cell (j:Int))):=
   bL (jY (bL (bL (bR rfl) eV.rd (Cz (by decide))).rd (bR rfl) vA).rd rfl).rd eV.rd (oK (by decide))
  have t:jJ 0 [sc,oL acc, .im (.int cell),x3, .im (.int (j:Int)),x5] = .nx [sc,oL (acc++[xM cell (j:Int)]), .im (.int cell),x3, .im (.int (j:Int)), .im (.int ((cell * 48271+(j:Int) * 69621+11) % 2147483647))]:=by
   rw [jJ,st_seq t1]
   have:=Gu (i:=1) (n:=0) m2 rfl (by rw [List.length_map]; omega)
   rw [this]
   show cA.nx [sc, .ow false (.lst .im) (.lst (acc.map D.int++[D.int (xM cell (j:Int))])), .im (.int cell),x3, .im (.int (j:Int)),_]=_
   rw [show acc.map D.int++[D.int (xM cell (j:Int))]=(acc++[xM cell (j:Int)]).map D.int by rw [List.map_append]; rfl]
  unfold d9
  rw [g]
  simp only
  rw [t]
  obtain ⟨z4,z5,e4,e5,e⟩:=Ka m (j+1) (acc++[xM cell (j:Int)]) (.im (.int (j:Int))) (.im (.int ((cell * 48271+(j:Int) * 69621+11) % 2147483647))) (by simp; omega) wJ wJ
  refine ⟨z4,z5,e4,e5,?_⟩
  rw [show acc++xM cell (j:Int) :: (List.range' (j+1) m).map (fun (k:Nat)=>xM cell (k:Int))=(acc++[xM cell (j:Int)])++(List.range' (j+1) m).map (fun (k:Nat)=>xM cell (k:Int)) by simp]
  exact e
theorem Xg {sc:SD} (cell:Int) (acc:List Int) (x3 x4 x5:SD) (hl:acc.length < 4900) (h3:tW x3) (h4:tW x4) (h5:tW x5):∃ z3 z4 z5,tW z3/\tW z4/\tW z5 /\
  nY 0 [sc,oL acc, .im (.int cell),x3,x4,x5] = .nx [sc,oL (acc++rK cell), .im (.int cell),z3,z4,z5]:=by
 have q:Pu (aD dGe (ak 2) (aD Vj (aC (.int 10)) (aC (.int 18)))) [sc,oL acc, .im (.int cell),x3,x4,x5] (.bl (decide (Vv≤cell))):=bL (bR rfl) (bL eV.rd eV.rd (d:=.int Vv) (by
  show (if (0:Int)≤18/\(18:Int)≤1000000/\(10:Int).natAbs < 2 ^ 64 then some (D.int ((10:Int) ^ (18:Int).toNat)) else none)=_
  rw [if_pos ⟨by decide,by decide,by decide⟩]; rfl)).rd rfl
 unfold rK
 by_cases h:Vv≤cell
 ·rw [if_pos h]
  have t1:lF 3 (ak 2) 0 [sc,oL acc, .im (.int cell),x3,x4,x5] = .nx [sc,oL acc, .im (.int cell), .im (.int cell),x4,x5]:=st_set (Gh (i:=2) (d:=.int cell) rfl) rfl h3
  have hr:=Px (n:=60) (by decide)
  obtain ⟨z3,z4,e3,e4,e⟩:=loop1 (sc:=sc) (c:=.im (.int cell)) (x5:=x5) ((List.range 60).map fun (k:Nat) => .int (k:Int)) cell acc x4 (by rw [List.length_map,List.length_range]; omega) h4
  rw [List.length_map,List.length_range] at e
  have fe:=(Gn (g:=iZ 4) (B:=iJ) (n:=0) (Lr (ss:=[sc,oL acc, .im (.int cell), .im (.int cell),x4,x5]) (A:=aC (.int 60)) eV.rd hr)).trans e
  exact ⟨z3,z4,x5,e3,e4,h5,oH q (decide_eq_true h) ((st_seq t1).trans fe)⟩
 ·rw [if_neg h]
  have hr:=Px (n:=4) (by decide)
  obtain ⟨z4,z5,e4,e5,e⟩:=Ka (sc:=sc) (cell:=cell) (x3:=x3) 4 0 acc x4 x5 (by omega) h4 h5
  rw [List.range_eq_range'] at hr ⊢
  have fe:=(Gn (g:=iZ 4) (B:=jJ) (n:=0) (Lr (ss:=[sc,oL acc, .im (.int cell),x3,x4,x5]) (A:=aC (.int 4)) eV.rd hr)).trans e
  exact ⟨x3,z4,z5,h3,e4,e5,tV q (decide_eq_false h) fe⟩
theorem ZS {sc:SD}:∀ (l:List Int) (acc:List Int) (x2 x3 x4 x5:SD),acc.length+60 * l.length < 4900->tW x2->tW x3->tW x4->tW x5->∃ z2 z3 z4 z5,
  d9 (iZ 2) nY 0 (l.map .int) [sc,oL acc,x2,x3,x4,x5] = .nx [sc,oL (acc++l.flatMap rK),z2,z3,z4,z5]
 | [],acc,x2,x3,x4,x5,_,_,_,_,_=>⟨x2,x3,x4,x5,by show _=cA.nx [sc,oL (acc++[]),x2,x3,x4,x5]; rw [List.append_nil]; rfl⟩
 | c :: l,acc,x2,x3,x4,x5,hl,h2,h3,h4,h5=>by
  rw [List.length_cons] at hl
  have g:iZ 2 (.int c) [sc,oL acc,x2,x3,x4,x5]=some [sc,oL acc, .im (.int c),x3,x4,x5]:=Gp rfl h2
  obtain ⟨z3,z4,z5,e3,e4,e5,e⟩:=Xg (sc:=sc) c acc x3 x4 x5 (by omega) h3 h4 h5
  have cl:=P0 c
  obtain ⟨w2,w3,w4,w5,e'⟩:=ZS (sc:=sc) l (acc++rK c) (.im (.int c)) z3 z4 z5 (by rw [List.length_append]; omega) wJ e3 e4 e5
  refine ⟨w2,w3,w4,w5,?_⟩
  rw [List.map_cons]
  unfold d9
  rw [g]
  simp only
  rw [e,List.flatMap_cons,<- List.append_assoc]
  exact e'
theorem aeD (l:List D) (k:Nat):DL.cutD l none (some (k:Int))=l.take k:=by
 unfold DL.cutD
 rw [show HT.sIx l.length l.length (some (k:Int))=min k l.length from HT.sIx_nat l.length l.length k,HT.sIx_none]
 rw [List.drop_zero,Nat.sub_zero]
 by_cases h:k≤l.length
 ·rw [Nat.min_eq_left h]
 ·rw [Nat.min_eq_right (by omega),List.take_of_length_le (Nat.le_refl _),List.take_of_length_le (by omega)]
theorem LK:∀ ss,gK ss ≠ .bad->∃ n,runB 6 j5 n ss=gK ss:=fun _=>aa4 fun v d h=>by
 unfold CG at h
 split at h
 ·rename_i l
  obtain ⟨ns,hs,h2⟩:=dY h
  cases h2
  have hl:=Gr hs
  subst hl
  refine ⟨0,?_⟩
  have t0:zN 1 (rF []) 0 [.im (.fz (ns.map .int)), .un, .un, .un, .un, .un] = .nx [.im (.fz (ns.map .int)),oL [], .un, .un, .un, .un]:=rfl
  have sl:Pu (Mw (ak 0) none (some (aC (.int 63)))) [.im (.fz (ns.map .int)),oL [], .un, .un, .un, .un] (.lst ((ns.take 63).map .int)):=abh (bR rfl) eV.rd (by
   show some (D.lst (DL.cutD (ns.map D.int) none (some ((63:Nat):Int))))=_
   rw [aeD,List.map_take])
  have h63:([]:List Int).length+60 * (ns.take 63).length < 4900:=by
   rw [List.length_take,List.length_nil]; omega
  obtain ⟨z2,z3,z4,z5,e⟩:=ZS (sc:=.im (.fz (ns.map .int))) (ns.take 63) [] .un .un .un .un h63 J9 J9 J9 J9
  have fe:=(Gn (g:=iZ 2) (B:=nY) (n:=0) (ab7 sl rfl)).trans e
  rw [List.nil_append] at fe
  have q:Pu (aD tH (aFn iI [(ak 1)]) (aC (.int 0))) [.im (.fz (ns.map .int)),oL (numsOf ns),z2,z3,z4,z5] (.bl (decide (((numsOf ns).length:Int)=0))):=bL (jY (bR (i:=1) rfl) (by
   show some (D.int (((numsOf ns).map D.int).length:Int))=_
   rw [List.length_map])).rd eV.rd (Lz _ _)
  have key:cJ (jh (aD tH (aFn iI [(ak 1)]) (aC (.int 0))) (mK 1 (aC (.int 0))) fU) (gH (ZG 1)) 0 [.im (.fz (ns.map .int)),oL (numsOf ns),z2,z3,z4,z5] = .rt (bK (ji ns)) [.im (.fz (ns.map .int)), .im (bK (ji ns)),z2,z3,z4,z5]:=by
   unfold ji
   by_cases h0:(numsOf ns).length=0
   ·rw [if_pos h0]
    have e0:numsOf ns=[]:=List.length_eq_zero_iff.mp h0
    rw [e0] at q ⊢
    have t:mK 1 (aC (.int 0)) 0 [.im (.fz (ns.map .int)),oL [],z2,z3,z4,z5] = .nx [.im (.fz (ns.map .int)),oL [0],z2,z3,z4,z5]:=Gu (i:=1) (n:=0) (l:=[]) eV rfl (by show 0 < sizeLine; decide)
    rw [st_seq (oH q rfl t)]
    rfl
   ·rw [if_neg h0,st_seq (s:=[.im (.fz (ns.map .int)),oL (numsOf ns),z2,z3,z4,z5]) (tV q (decide_eq_false (by omega)) rfl)]
    rfl
  refine pA (s0:=[.im (.fz (ns.map .int)), .un, .un, .un, .un, .un]) (s':=[.im (.fz (ns.map .int)), .im (bK (ji ns)),z2,z3,z4,z5]) rfl ?_ rfl
  rw [j5,st_seq t0,st_seq fe]
  exact key
 ·cases h
end SW
namespace SW
open PySem PySem.Spec PyProof.Rows L2 DL
end SW
namespace SW
open PySem PySem.Spec PyProof.Rows L2 DL
theorem Gv:∀ (n:Nat) (l:List D),l.length≤n->l.eraseDups.length≤l.length
 | _,[],_=>by simp
 | 0,_ :: _,h=>by simp at h
 | n+1,a :: as,h=>by
  rw [List.eraseDups_cons,List.length_cons,List.length_cons]
  have h1:(as.filter fun b=>!b == a).length≤as.length:=List.length_filter_le _ _
  have h2:=Gv n (as.filter fun b=>!b == a) (by simp at h; omega)
  omega
theorem DN:∀ l:List D,Cy l=true↔l.Nodup
 | []=>by simp [Cy]
 | a :: as=>by
  have ih:=DN as
  unfold Cy at ih ⊢
  rw [decide_eq_true_eq] at ih ⊢
  rw [List.eraseDups_cons,List.length_cons,List.length_cons,List.nodup_cons]
  have h1:=Gv _ (as.filter fun b=>!b == a) (Nat.le_refl _)
  have h0:(as.filter fun b=>!b == a).length≤as.length:=List.length_filter_le _ _
  by_cases hm:a∈as
  ·have:(as.filter fun b=>!b == a).length < as.length:=by
    rcases Nat.lt_or_ge (as.filter fun b=>!b == a).length as.length with z | z
    ·exact z
    ·have e:(as.filter fun b=>!b == a)=as:=List.Sublist.eq_of_length_le List.filter_sublist z
     have hm2:a∈as.filter fun b=>!b == a:=by rw [e]; exact hm
     have:=(List.mem_filter.mp hm2).2
     simp at this
   constructor
   ·intro h; omega
   ·intro h; exact absurd hm h.1
  ·have e:(as.filter fun b=>!b == a)=as:=List.filter_eq_self.mpr fun b hb=>by
    have:b ≠ a:=fun z=>hm (z ▸ hb)
    simp [this]
   rw [e]
   constructor
   ·intro h; exact ⟨hm,ih.mp (by omega)⟩
   ·intro h; have:=ih.mpr h.2; omega
def klt (a b a' b':List Nat):Bool:=if a=a' then (if b=b' then false else decide (b < b')) else decide (a < a')
theorem CJ (a b:List Nat):D.eqv (.str a) (.str b)=decide (a=b):=by
 unfold D.eqv
 by_cases h:a=b
 ·simp [h]
 ·simp [h]
theorem yF (a b a' b':List Nat):ltB (keyD a b) (keyD a' b')=klt a b a' b':=by
 have e:ltB (keyD a b) (keyD a' b')=(if D.eqv (.str a) (.str a') then (if D.eqv (.str b) (.str b') then false else decide (b < b')) else decide (a < a')):=rfl
 rw [e,CJ,CJ]
 unfold klt
 simp only [decide_eq_true_eq]
theorem aci (a b a' b':List Nat) (i i':Int):ltB (.tup [.str a, .str b, .int i]) (.tup [.str a', .str b', .int i'])=if a=a'/\b=b' then (if i=i' then false else decide (i < i')) else klt a b a' b':=by
 have e:ltB (.tup [.str a, .str b, .int i]) (.tup [.str a', .str b', .int i'])=(if D.eqv (.str a) (.str a') then (if D.eqv (.str b) (.str b') then (if (i == i') then false else decide (i < i')) else decide (b < b')) else decide (a < a')):=rfl
 rw [e,CJ,CJ]
 unfold klt
 by_cases h1:a=a'
 ·by_cases h2:b=b'
  ·simp [h1,h2]
  ·simp [h1,h2]
 ·simp [h1]
theorem Kc (a b:List Nat):klt a b a b=false:=by simp [klt]
theorem Xh {a b a' b' a2 b2:List Nat} (h:klt a b a' b'=true) (h':klt a' b' a2 b2=true):klt a b a2 b2=true:=by
 unfold klt at *
 by_cases e1:a=a'
 ·subst e1
  simp only [if_true] at h
  by_cases e2:a=a2
  ·subst e2
   simp only [if_true] at h' ⊢
   split at h
   ·cases h
   ·split at h'
    ·cases h'
    ·rename_i n1 n2
     have l1:=of_decide_eq_true h
     have l2:=of_decide_eq_true h'
     have l3:b < b2:=List.lt_trans l1 l2
     have:b ≠ b2:=fun z=>List.lt_irrefl b2 (z ▸ l3)
     rw [if_neg this]; exact decide_eq_true l3
  ·rw [if_neg e2] at h' ⊢; exact h'
 ·rw [if_neg e1] at h
  have l1:=of_decide_eq_true h
  by_cases e2:a'=a2
  ·subst e2
   rw [if_neg e1]; exact decide_eq_true l1
  ·rw [if_neg e2] at h'
   have l2:=of_decide_eq_true h'
   have l3:a < a2:=List.lt_trans l1 l2
   have:a ≠ a2:=fun z=>List.lt_irrefl a2 (z ▸ l3)
   rw [if_neg this]; exact decide_eq_true l3
def Qa (d:D):Prop:=∃ x y i,d = .tup [.str x, .str y, .int i]
theorem U6 {r r':D} (h:Qa r) (h':Qa r'):ltB (cW r) (cW r')=true↔ltB r r'=true/\cW r ≠ cW r':=by
 obtain ⟨x,y,i,rfl⟩:=h
 obtain ⟨x',y',i',rfl⟩:=h'
 have p1:cW (.tup [.str x, .str y, .int i])=keyD x y:=rfl
 have p2:cW (.tup [.str x', .str y', .int i'])=keyD x' y':=rfl
 rw [p1,p2,yF,aci]
 by_cases h:x=x'/\y=y'
 ·rw [if_pos h]
  obtain ⟨rfl,rfl⟩:=h
  simp [Kc]
 ·rw [if_neg h]
  have:keyD x y ≠ keyD x' y':=fun z=>h (by
   unfold keyD at z
   injection z with z
   simp at z
   exact z)
  simp [this]
theorem R5 {l:List D} (hr:∀ r∈l,Qa r):jZ ltB (l.map cW)=true->(l.map cW).Pairwise (fun a b=>ltB a b=true):=by
 induction l with
 | nil=>intro _; exact List.Pairwise.nil
 | cons a r ih=>
  intro h
  cases r with
  | nil=>exact List.pairwise_singleton _ _
  | cons b t=>
   have h':(ltB (cW a) (cW b) && jZ ltB ((b :: t).map cW))=true:=h
   rw [Bool.and_eq_true] at h'
   have P:=ih (fun r hr'=>hr r (List.mem_cons_of_mem _ hr')) h'.2
   rw [List.map_cons,List.pairwise_cons]
   refine ⟨fun c hc=>?_,P⟩
   rw [List.map_cons] at hc P
   rcases List.mem_cons.mp hc with z | z
   ·rw [z]; exact h'.1
   ·rw [List.pairwise_cons] at P
    have h2:=P.1 c z
    obtain ⟨c0,hc0,rfl⟩:=List.mem_map.mp z
    obtain ⟨x,y,i,rfl⟩:=hr a List.mem_cons_self
    obtain ⟨x',y',i',rfl⟩:=hr b (List.mem_cons_of_mem _ List.mem_cons_self)
    obtain ⟨x2,y2,i2,rfl⟩:=hr c0 (List.mem_cons_of_mem _ (List.mem_cons_of_mem _ hc0))
    have e1:=h'.1
    have p1:cW (.tup [.str x, .str y, .int i])=keyD x y:=rfl
    have p2:cW (.tup [.str x', .str y', .int i'])=keyD x' y':=rfl
    have p3:cW (.tup [.str x2, .str y2, .int i2])=keyD x2 y2:=rfl
    rw [p1,p2,yF] at e1
    rw [p2,p3,yF] at h2
    rw [p1,p3,yF]
    exact Xh e1 h2
theorem Vw:∀ {l:List D},(∀ r∈l,Qa r)->(jZ ltB l && Cy (l.map cW))=jZ ltB (l.map cW):=by
 intro l hr
 apply Bool.eq_iff_iff.mpr
 rw [Bool.and_eq_true]
 constructor
 ·rintro ⟨h1,h2⟩
  rw [DN] at h2
  induction l with
  | nil=>rfl
  | cons a r ih=>
   cases r with
   | nil=>rfl
   | cons b t=>
    have h1':(ltB a b && jZ ltB (b :: t))=true:=h1
    rw [Bool.and_eq_true] at h1'
    rw [List.map_cons,List.nodup_cons] at h2
    show (ltB (cW a) (cW b) && jZ ltB ((b :: t).map cW))=true
    rw [Bool.and_eq_true]
    refine ⟨(U6 (hr a List.mem_cons_self) (hr b (List.mem_cons_of_mem _ List.mem_cons_self))).mpr ⟨h1'.1,fun z=>h2.1 (by rw [z]; exact List.mem_map_of_mem List.mem_cons_self)⟩,ih (fun r hr'=>hr r (List.mem_cons_of_mem _ hr')) h1'.2 h2.2⟩
 ·intro h
  have P:=R5 hr h
  refine ⟨?_,(DN _).mpr (P.imp_of_mem (fun {x y} hx hy hlt z=>?_))⟩
  ·clear P
   induction l with
   | nil=>rfl
   | cons a r ih=>
    cases r with
    | nil=>rfl
    | cons b t=>
     have h':(ltB (cW a) (cW b) && jZ ltB ((b :: t).map cW))=true:=h
     rw [Bool.and_eq_true] at h'
     show (ltB a b && jZ ltB (b :: t))=true
     rw [Bool.and_eq_true]
     exact ⟨((U6 (hr a List.mem_cons_self) (hr b (List.mem_cons_of_mem _ List.mem_cons_self))).mp h'.1).1,ih (fun r hr'=>hr r (List.mem_cons_of_mem _ hr')) h'.2⟩
  ·obtain ⟨x0,hx0,rfl⟩:=List.mem_map.mp hx
   obtain ⟨a,b,i,rfl⟩:=hr x0 hx0
   rw [<- z] at hlt
   have p1:cW (.tup [.str a, .str b, .int i])=keyD a b:=rfl
   rw [p1,yF,Kc] at hlt
   cases hlt
end SW
namespace SW
open PySem PySem.Spec PyProof.Rows L2 DL
mutual
theorem LQ:∀ d:D,frz (frz d)=frz d
 | .lst l=>by show D.tup (frzs (frzs l)) = .tup (frzs l); rw [Gx l]
 | .tup l=>by show D.tup (frzs (frzs l)) = .tup (frzs l); rw [Gx l]
 | .non=>rfl
 | .bl _=>rfl
 | .int _=>rfl
 | .str _=>rfl
 | .iH _ _=>rfl
 | .fz _=>rfl
 | .ob _ _ _=>rfl
theorem Gx:∀ l:List D,frzs (frzs l)=frzs l
 | []=>rfl
 | d :: l=>by show frz (frz d) :: frzs (frzs l)=frz d :: frzs l; rw [LQ d,Gx l]
end
theorem M8 (a:D):eY (frz a)=eY a:=by
 cases a with
 | lst l=>rfl
 | tup l=>rfl
 | _=>rfl
theorem Vx (a:D) (i j:Int):su (frz a) i j=su a i j:=by
 cases a with
 | lst l=>rfl
 | tup l=>rfl
 | _=>rfl
theorem M9 {v:D} {l:List D} (h:vN v=some l):vN (frz v)=some (l.map frz):=by rw [abk h]; rfl
def acj:List D->Bool
 | [a,b,c]=>eY a && eY b && !D.eqv a b && su c 1 9
 | _=>false
theorem Kd {v:D} {l:List D} (h:vN v=some l):oJ v=acj l:=by
 unfold oJ
 rw [h]
 match l with
 | []=>rfl
 | [_]=>rfl
 | [_,_]=>rfl
 | [_,_,_]=>rfl
 | _ :: _ :: _ :: _ :: _=>rfl
theorem Xi (v:D):oJ (frz v)=oJ v:=by
 cases h:vN v with
 | none=>rw [M6 h]
 | some l=>
  rw [Kd (M9 h),Kd h]
  match l with
  | []=>rfl
  | [_]=>rfl
  | [_,_]=>rfl
  | _ :: _ :: _ :: _ :: _=>rfl
  | [a,b,c]=>
   show (eY (frz a) && eY (frz b) && !D.eqv (frz a) (frz b) && su (frz c) 1 9)=(eY a && eY b && !D.eqv a b && su c 1 9)
   rw [M8,M8,Vx]
   cases ha:eY a with
   | false=>rfl
   | true=>
    cases hb:eY b with
    | false=>rfl
    | true=>
     have wa:Oe a=true:=by unfold eY at ha; rw [Bool.and_eq_true] at ha; exact ha.1
     have wb:Oe b=true:=by unfold eY at hb; rw [Bool.and_eq_true] at hb; exact hb.1
     obtain ⟨x,rfl⟩:=Pr wa
     obtain ⟨y,rfl⟩:=Pr wb
     rfl
theorem Xj (v:D):Gk (frz v)=Gk v:=by
 cases h:vN v with
 | none=>rw [M6 h]
 | some l=>
  unfold Gk
  rw [M9 h,h]
  simp only [List.length_map,List.map_map]
  have e1:(l.map frz).all oJ=l.all oJ:=by
   rw [List.all_map]
   congr 1
   funext x
   exact Xi x
  have e2:l.map (frz ∘ frz)=l.map frz:=List.map_congr_left fun x _=>LQ x
  have e3:l.map (cW ∘ frz ∘ frz)=l.map (cW ∘ frz):=List.map_congr_left fun x _=>by
   show cW (frz (frz x))=cW (frz x)
   rw [LQ]
  rw [e1,e2,e3]
mutual
theorem U7:∀ d:D,frz d=d->jH d=true->yS d d=true
 | .non,_,_=>rfl
 | .bl b,_,_=>by show (b == b)=true; simp
 | .int b,_,_=>by show (b == b)=true; simp
 | .str b,_,_=>by show (b == b)=true; simp
 | .tup l,h,ho=>by
  have hm:frzs l=l:=by
   have h':D.tup (frzs l) = .tup l:=h
   injection h'
  have h':(decide (l.length≤sizeLine) && vq l)=true:=ho
  rw [Bool.and_eq_true] at h'
  show (decide (l.length=l.length) && Gm l l)=true
  rw [decide_eq_true rfl,Bool.true_and]
  exact Qc l hm h'.2
 | .lst l,h,_=>nomatch h
 | .iH _ _,_,h=>nomatch h
 | .fz _,_,h=>nomatch h
 | .ob _ _ _,_,h=>nomatch h
theorem Qc:∀ l:List D,frzs l=l->vq l=true->Gm l l=true
 | [],_,_=>rfl
 | d :: l,h,ho=>by
  have h':frz d :: frzs l=d :: l:=h
  injection h' with h1 h2
  have ho':(jH d && vq l)=true:=ho
  rw [Bool.and_eq_true] at ho'
  show (yS d d && Gm l l)=true
  rw [U7 d h1 ho'.1,Qc l h2 ho'.2]; rfl
end
end SW
namespace SW
open PySem PySem.Spec PyProof.Rows L2 DL
def good (x:List Nat):Prop:=x.all Ik=true/\x.length≤2
theorem Vy {a b:List Nat} {i:Int} (ha:good a) (hb:good b) (hne:a ≠ b) (h1:1≤i) (h9:i≤9):oJ (.tup [.str a, .str b, .int i])=true:=by
 have pa:eY (.str a)=true:=by
  unfold eY
  rw [Bool.and_eq_true]
  exact ⟨ha.1,decide_eq_true (by have:=ha.2; show (a.length:Int)≤2; omega)⟩
 have pb:eY (.str b)=true:=by
  unfold eY
  rw [Bool.and_eq_true]
  exact ⟨hb.1,decide_eq_true (by have:=hb.2; show (b.length:Int)≤2; omega)⟩
 show (eY (.str a) && eY (.str b) && !D.eqv (.str a) (.str b) && su (.int i) 1 9)=true
 have w:su (.int i) 1 9=true:=by
  show (decide ((1:Int)≤i) && decide (i≤9))=true
  rw [decide_eq_true h1,decide_eq_true h9]; rfl
 rw [pa,pb,CJ,decide_eq_false hne,w]; rfl
end SW
namespace SW
open PySem PySem.Spec PyProof.Rows L2 DL
end SW
namespace DL
open PySem PySem.Spec PyProof.Rows L2
def Qe (K:PySem.W.Frag):Sp:=fun vs H Q _=>∃ (a:Addr) (ns:List Int),vs=[.ref a]/\SqL K H a (ns.map V.int)/\∀ H',Q (.bl true) H'
theorem Nb {K:Kw} {G:Hp}:∀ ns:List Int,au K G (ns.map V.int) (ns.map D.int)
 | [] => .nil
 | n :: r => .cons (.int n) (Nb r)
theorem abn {P:Program} {w:World} {K:PySem.W.Frag} {mg:Str->Option Value} {base:Heap} {k:Nat} {f:Addr} {fd:FuncData} {x:Str} {F:FnD} (h:FnOk P w K mg base (L2.CX P w) k f fd [x] (pH ⟨K,w,mg⟩ mg F)) (hF:∀ ns:List Int,∃ z,F [.im (.fz (ns.map .int))] = .ret (.bl true) z) :
  FnOk P w K mg base (L2.CX P w) k f fd [x] (Qe K):=
 h.imp fun vs H Q E ⟨a,ns,e,hs,q⟩=>by
  subst e
  obtain ⟨z,hz⟩:=hF ns
  refine ⟨H,_,_,Ul (K:=⟨K,w,mg⟩) (ds:=[.fz (ns.map .int)]) (Ex.refl H) (.cons (.fz hs (Nb ns)) .nil),?_,fun d ss' v G' own' H' e st F' r=>?_⟩
  ·show N7 _ _ _ _ _ _ _ _ (F [.im (.fz (ns.map .int))])
   rw [hz]; trivial
  ·have e':F [.im (.fz (ns.map .int))] = .ret d ss':=e
   rw [hz] at e'
   cases e'
   cases r
   exact q H'
end DL
namespace DL
open PySem PySem.Spec PyProof.Rows L2
end DL
set_option maxHeartbeats 2000000
namespace PySem
namespace Qg
open PySem.W PySem.Calls PyProof.Rows PySem.HandSPX Builtin
section
variable {prog:Program} {w:World} {A:Around} {E:Value->Shared->Prop} {R:Result->Shared->Prop} {h:Heap} {g:Array GenState} {d:Drawn} {t:Nat} {os:OsState}
variable {nm q:Str} {C N:Addr} {bs bm bmB:List Value} {hdct:Bool} {sn:List Str} {sub:List Value} {ab:Bool} {col:Option Bool} {dd:Option Addr} {k0 k1 k2 k3 k5:Option Value} {B newId initId:String} {kws:List (Str×Value)}
theorem acn (F:ExcBaseFacts B newId initId bmB) (hT:∀ X:String,bm.contains (.type X)=bmB.contains (.type X)) (hC:h.get? C=some (excClassObj nm q C N bs bm hdct sn sub ab col dd k0 k1 k2 k3 k5 newId))
  (hq:R (.ok (.ret (.ref (h.objs.size+1)))) ⟨(h.push (W.kdv_tup [])).push (excO C h.objs.size),g,d,t,os⟩) :
  codeAny (model prog w) A (.builtin newId ⟨[.ref C],kws⟩) R ⟨h,g,d,t,os⟩:=by
 have hends:=F.ends
 have c1:(Value.ref C :: bm).contains (.type B)=true:=by rw [List.contains_cons,hT,F.hasB,Bool.or_true]
 have c2:(Value.ref C :: bm).contains (.type "AttributeError")=false:=by rw [List.contains_cons,hT,F.noAttr]; rfl
 have c3:(Value.ref C :: bm).contains (.type "NameError")=false:=by rw [List.contains_cons,hT,F.noName]; rfl
 have hrest:([]:List Value).length≤sizeLine:=Nat.zero_le _
 refine codeAny_builtinAt F.entry ?_
 unfold Builtin.«BaseException.__new__»
 refine wpAt_bind ?_
 show wpAt _ _ _ (stack >>= _) _ _ _
 refine wpAt_bind (wpAt_stack fun p below=>wpAt_of_wpAny ?_)
 wp_walk
 refine wpAt_of_wpAny ?_
 rw [F.owner]
 repeat (first | with_reducible refine wpAny_madeHere_exc F.canon hC ?_ | with_reducible refine wpAny_loadPart_at hC ?_ | (with_reducible refine wpAny_isSubtype_exc hC ?_; first | rw [c1] | rw [c2] | rw [c3]) | wp_step)
 show R _ _
 rw [Heap.size_push]; exact hq
theorem Qh {M:Model} (F:ExcBaseFacts B newId initId bmB) (hT:∀ X:String,bm.contains (.type X)=bmB.contains (.type X)) {Q:Unit->Shared->Prop}
  (hC:h.get? C=some (excClassObj nm q C N bs bm hdct sn sub ab col dd k0 k1 k2 k3 k5 newId)) (hq:Q () ⟨h,g,d,t,os⟩):wpAny M A (checkBuiltinCall newId ⟨[.ref C],kws⟩) Q E ⟨h,g,d,t,os⟩:=by
 have c1:(Value.ref C :: bm).contains (.type B)=true:=by rw [List.contains_cons,hT,F.hasB,Bool.or_true]
 have star:=F.noStar
 simp only [checkBuiltinCall,F.newKind,F.newSplit,F.newRow]
 repeat (first | refine wpAny_loadPart_at hC ?_ | (refine wpAny_isSubtype_exc hC ?_; rw [c1]) | refine wpAny_staticBase_exc hC ?_ | refine wpAny_madeBy_exc hC ?_ | simp only [bne_self_eq_false,Bool.false_eq_true,if_false] | wp_step)
 exact hq
theorem NP {M:Model} {Q:Unit->Shared->Prop} (hC:h.get? C=some (excClassObj nm q C N bs bm hdct sn sub ab col dd k0 k1 k2 k3 k5 newId)) (hq:Q () ⟨h,g,d,t,os⟩):wpAny M A (checkBuiltinCall "type.__call__" ⟨[.ref C],kws⟩) Q E ⟨h,g,d,t,os⟩:=by
 have f3:=tc_sub
 have ty:(⟨h,g,d,t,os⟩:Shared).TypeIs (.ref C) "type":=⟨_,hC,rfl⟩
 simp only [checkBuiltinCall,tc_kind,tc_split]
 repeat (any_goals (first | assumption | with_reducible refine wpAny_loadPart_at hC ?_ | with_reducible refine wpAny_onRaise ?_ | with_reducible refine wpAny_map ?_ | wp_step))
theorem Qi (F:ExcBaseFacts B newId initId bmB) (hT:∀ X:String,bm.contains (.type X)=bmB.contains (.type X)) {fI:Addr} {Q:Fin->Shared->Prop} (hC:h.get? C=some (excClassObj nm q C N bs bm hdct sn sub ab col dd k0 k1 k2 k3 k5 newId))
  (hi:W.Looks (model prog w) h (typeLookup (.ref C) "__init__") (some (.ref fI))) (hb:∀ self,W.Looks (model prog w) h (bindSpecial (.ref fI) self) (.ref fI,[self]))
  (hq:codeAny (model prog w) A (.call (.ref fI) ⟨[.ref (h.objs.size+1)],kws⟩)
   (fun r s'=>match r with | .ok (.ret v)=>v = .none/\Q (.done (.ret (.ref (h.objs.size+1)))) s' | .ok _=>False | .error e=>E e s') ⟨(h.push (W.kdv_tup [])).push (excO C h.objs.size),g,d,t,os⟩) :
  wpAny (model prog w) A (Builtin.«type.__call__» ⟨[.ref C],kws⟩) Q E ⟨h,g,d,t,os⟩:=by
 repeat (first | with_reducible refine wpAny_loadPart_at hC ?_ | with_reducible refine wpAny_madeBy_exc hC ?_ | wp_step)
 refine codeAny_call_builtin_code (Code.quiet_builtin _ F.quiet) (Qh F hT hC ?_)
 refine acn F hT hC ?_
 show wpAny _ _ _ _ _ _
 have k:∀ b o,h.get? b=some o->((h.push (W.kdv_tup [])).push (excO C h.objs.size)).get? b=some o:=fun b o e=>Heap.get?_push_of_some _ (Heap.get?_push_of_some _ e)
 have k2:=k _ _ hC
 have Ds:((h.push (W.kdv_tup [])).push (excO C h.objs.size)).get? (h.objs.size+1)=some (excO C h.objs.size):=by heap_get
 have self:(Value.ref C :: bm).contains (.ref C)=true:=by simp
 have i1:=hi.keeps k
 have b1:=(hb (.ref (h.objs.size+1))).keeps k
 unfold isInstance
 repeat (first | with_reducible refine wpAny_loadPart_at Ds ?_ | (with_reducible refine wpAny_isSubtype_exc k2 ?_; rw [self]) | wp_step)
 show wpAny _ _ (typeLookup (.ref C) _) _ _ _
 refine i1.at ?_
 refine wpAny_holding (wpAny_bind (b1.at ?_))
 refine wpAny_bind (wpAny_call (codeAny_mono hq fun r s' z=>?_))
 rcases r with e | (v | _ | _ | _) <;> first | exact z | exact z.elim | skip
 obtain ⟨rfl,z⟩:=z
 first
  | exact wpAny_pure (wpAny_pure z)
  | (wp_walk; exact z)
theorem Il (F:ExcBaseFacts B newId initId bmB) (hT:∀ X:String,bm.contains (.type X)=bmB.contains (.type X)) {fI:Addr} (hC:h.get? C=some (excClassObj nm q C N bs bm hdct sn sub ab col dd k0 k1 k2 k3 k5 newId))
  (hi:W.Looks (model prog w) h (typeLookup (.ref C) "__init__") (some (.ref fI))) (hb:∀ self,W.Looks (model prog w) h (bindSpecial (.ref fI) self) (.ref fI,[self]))
  (hq:codeAny (model prog w) (A.under (.builtin "type.__call__" ⟨[.ref C],kws⟩)) (.call (.ref fI) ⟨[.ref (h.objs.size+1)],kws⟩) (W.InitBack (h.objs.size+1) R) ⟨(h.push (W.kdv_tup [])).push (excO C h.objs.size),g,d,t,os⟩) :
  codeAny (model prog w) A (.call (.ref C) ⟨[],kws⟩) R ⟨h,g,d,t,os⟩:=by
 have f1:=tc_lookup
 have f2:=tc_bind (.ref C)
 have ty:(⟨h,g,d,t,os⟩:Shared).TypeIs (.ref C) "type":=⟨_,hC,rfl⟩
 refine codeAny_of_tree ?_
 show wpAny _ _ (callAny (.ref C) _) _ _ _
 repeat (any_goals (first | assumption | with_reducible refine wpAny_loadPart_at hC ?_ | wp_step))
 refine ⟨rfl,?_⟩
 refine codeAny_call_builtin_at (Code.quiet_builtin _ (by decide +kernel)) entry_typeCall (NP hC (Qi F hT hC hi hb ?_))
 refine codeAny_mono hq fun r s' z=>?_
 rcases r with e | (v | _ | _ | _) <;> exact z
end
end Qg
end PySem
set_option maxHeartbeats 2000000
namespace PySem
namespace Ab
open PySem.W PySem.Calls PyProof.Rows PySem.HandSPX Builtin Builtin.ObjectAttr
section
variable {P:Program} {w:World} {A:Around} {R:Result->Shared->Prop} {z:Heap} {gs:Array GenState} {dr:Drawn} {k:Nat} {o:OsState}
theorem YX {K:W.Frag} {f:Str} {tk:Tok} {v:Value} {e C dx:Addr} {fs:Array Value} {c:ClassData} {bm:List Value} {m0:Str->Option Value} {nl:List Str}
  (kin:K.In z) (Ds:z.get? e=some { cls:=.ref C,dict:=some dx,data:=.fields fs }) (ns0:z.Ns1 dx m0) (wi:Within m0 nl) (few:nl.length≤1000) (cls:W.clsIn K C=some c) (mro:c.mro = .ref C :: bm) (sub:Ac bm) (dict:c.hasDict=true) (no:W.findIn K (.ref C) f=some none)
  (fin:∀ z' k',(∀ a u,a ≠ dx->z.get? a=some u->z'.get? a=some u)->z'.Ns1 dx (fun y=>if y=f then some v else m0 y)->R (.ok (.ret .none)) ⟨z',gs,dr,k',o⟩) :
  codeAny (model P w) A (.call (.builtin "object.__setattr__") ⟨[.ref e, .str f tk,v],[]⟩) R ⟨z,gs,dr,k,o⟩:=by
 obtain ⟨B,rfl⟩:=sub
 obtain ⟨oD,esD,epD,hoD,hdD,_⟩:=ns0.count wi
 have inst:W.InstAt z e { cls:=.ref C,dict:=some dx,data:=.fields fs } C (some oD):=⟨Ds,rfl,rfl,hoD⟩
 have S:=F.store_object
 have isObj:W.mroIn K C (.type "object")=some true:=by
  unfold W.mroIn
  rw [cls,Option.bind_some,mro]; rfl
 have Ls:W.Looks (model P w) z (isInstance (.ref e) (.type "object")) true:=inst.type.andThen (W.looks_mroIn kin isObj)
 have Lw:W.Looks (model P w) z (mroOf (.ref C)) c.mro:=(W.looks_clsIn kin cls).andThen .now
 have Ly:W.Looks (model P w) z (classData C) c:=W.looks_clsIn kin cls
 have pass:refuseLoop (.ref e) "__setattr__" c.mro=pure ():=by
  rw [mro,refuseLoop_ref,refuseLoop_ref]; exact F.store_Exception.passes _
 refine codeAny_call_builtin S.slot.plain S.entry (@W.check_slot (model P w) _ _ ⟨z,gs,dr,k,o⟩ "object.__setattr__" "object" "__setattr__" (.ref e) [.str f tk,v] [] _ S.kind S.split Ls (S.args (.ref e) (.str f tk) v) ?_)
 rw [W.osa_eq,refuse_eq]; refine wpAny_bind (wpAny_bind (inst.type.at (wpAny_bind (Lw.at ?_)))); rw [pass]
 refine wpAny_pure (wpAny_bind (inst.type.at (wpAny_bind ((W.looks_findIn kin no).at (wpAny_bind ((W.Looks.now (a:=(none:Option Value))).at ?_))))))
 show wpAny _ _ (storeInOwnDict (.ref e) (.ref C) (.str f tk) f v false) _ _ _; obtain ⟨c0,c1,c2,c3,c4,c5,c6,c7,c8,c9,c10⟩:=c
 obtain rfl:c5=true:=dict
 unfold storeInOwnDict; unfold ownDictForStores
 repeat (first | with_reducible refine ESX.store_in_old ns0 wi few ?_ | with_reducible refine wpAny_loadPart_at Ds ?_ | with_reducible refine Ly.at ?_ | wp_step)
 intro z' k' ns same
 exact fin z' k' (fun a u ha hu=>(same.2 a ha).trans hu) ns
end
end Ab
end PySem
namespace PySem
namespace pB
open PySem.W PySem.Calls PyProof.Rows PySem.HandSPX PySem.Ab
def iA (p1 p2:Pos):Arguments:={ posonlyargs:=[],args:=[{ arg:="self",annotation:=none,pos:=p1 },{ arg:="text",annotation:=none,pos:=p2 }],vararg:=none,kwonlyargs:=[],kw_defaults:=[],kwarg:=none,defaults:=[] }
def iB (q1 q2 q3 q4:Pos):List Stmt:=[.Assign [.Attribute (.Name "self" q1) "text" q2] (.Name "text" q3) q4]
def iS:Scope:={ kind:=.function,names:=[(PySem.Str.ofString "self", .local),(PySem.Str.ofString "text", .local)],isGenerator:=false,isCoroutine:=false,more:=[] }
structure bU (K:Frag) (mg:Str->Option Value) (cn qn:Str) (C fI:Addr):Prop where
 gC:mg cn=some (.ref C)
 cls:∃ nm q N bs bm sn sub ab col dd k0 k1 k2 k3 k5,K.lookup C=some (excClassObj nm q C N bs bm true sn sub ab col dd k0 k1 k2 k3 k5 "Exception.__new__")/\Ac bm
 sa:findIn K (.ref C) "__setattr__" = some (some (.builtin "object.__setattr__"))
 ga:findIn K (.ref C) "__getattribute__" = some (some (.builtin "BaseException.__getattribute__"))
 gg:findIn K (.ref C) "__getattr__" = some none
 pJ:findIn K (.ref C) "text" = some none
 iC:findIn K (.ref C) "__init__" = some (some (.ref fI))
 tC:typeIn K (.ref fI)=some (.type "function")
 kC:keepIn K (.ref C)=true
 exC:subIn K (.ref C) (.type "BaseException")=some true
 tyC:typeIn K (.ref C)=some (.type "type")
 hdC:hasDictIn K C=true
 te:exmOne K (.ref C) (.ref C)=some true
 fn:∃ (oc:Value) (od:Option Addr) (doc pm:Value) (an:Option Addr) (cdv ct:Value) (osl:Array (Option Value)) (p1 p2 q1 q2 q3 q4:Pos),
  K.lookup fI=some ⟨oc,od, .func (fnOf "__init__" qn (iA p1 p2) (iB q1 q2 q3 q4) iS .none .none doc pm an cdv ct),osl⟩/\codeIn K cdv qn=true
def Binds (args:Args) (x:Addr) (v1:Value):Prop:=∀ (qn:Str) (doc pm:Value) (an:Option Addr) (cdv ct:Value) (p1 p2 q1 q2 q3 q4:Pos),bindArgs (fnOf "__init__" qn (iA p1 p2) (iB q1 q2 q3 q4) iS .none .none doc pm an cdv ct) args=pure [(("self" : Str),Value.ref x),(("text" : Str),v1)]
structure vB (h h':Heap) (x C dx t1:Addr) (v1:Value):Prop where
 keep:∀ b o,b ≠ x->h.get? b=some o->h'.get? b=some o
 obj:h'.get? x=some { cls:=.ref C,dict:=some dx,data:=.fields #[.ref t1, .none, .none, .none, .bool false, .none] }
 mW:h.objs.size≤dx
 dne:dx ≠ x
 ns:h'.Ns1 dx (fun y:Str=>if y = "text" then some v1 else none)
structure gM (h h':Heap) (e C d:Addr) (v1:Value):Prop where
 keep:∀ b o,h.get? b=some o->h'.get? b=some o
 new:h.objs.size≤e
 obj:∃ oe vs,h'.get? e=some oe/\oe.cls = .ref C/\oe.dict=some d/\oe.data = .fields vs/\vs[1]? = some .none
 mW:h.objs.size≤d
 dne:d ≠ e
 ns:h'.Ns1 d (fun y:Str=>if y = "text" then some v1 else none)
section
variable {prog:Program} {w:World} {A:Around} {E:Value->Shared->Prop} {R:Result->Shared->Prop} {s:Shared} {K:Frag} {mg:Str->Option Value} {C fI:Addr}
theorem rM {cn qn:Str} (T:bU K mg cn qn C fI) {x t0:Addr} {v1:Value} {args:Args} (hb:Binds args x v1) (X:K.In s.heap) (hlim:s.heap.NoLimit) (hx:s.heap.get? x=some (excO C t0)) (hnx:K.lookup x=none) (hroom:A.depth < recursionLimit)
  (hq:∀ h' tk dx,vB s.heap h' x C dx t0 v1->R (.ok (.ret .none)) { s with heap:=h',toks:=tk }) :
  codeAny (model prog w) A (.call (.ref fI) args) R s:=by
 obtain ⟨oc,od,doc,pm,an,cdv,ct,osl,p1,p2,q1,q2,q3,q4,ho,hcd⟩:=T.fn
 obtain ⟨nm,q,N,bs,bm,sn,sub,ab,col,dd,k0,k1,k2,k3,k5,hC,hbm⟩:=T.cls
 have hcl:clsIn K C=some { name:=nm,bases:=bs,mro:=.ref C :: bm,ns:=N,qualname:=q,hasDict:=true,slotNames:=sn,subclasses:=sub,abstract:=ab,collection:=col,hasDel:=false }:=by unfold clsIn; rw [hC] <;> rfl
 refine Att.call_fn (binds:=[(("self" : Str),Value.ref x),(("text" : Str),v1)]) X hlim ho hcd hroom (BindsTo.of_eq (hb _ _ _ _ _ _ _ _ _ _ _ _)) (by first | rfl | decide | with_unfolding_all rfl) (fun s₁ IC=>?_) rfl rfl rfl
 obtain ⟨h₁,tk₁,rfl⟩:=IC.toInCall.same
 have k:∀ b o,s.heap.get? b=some o->h₁.get? b=some o:=IC.toInCall.keep
 have hn:=IC.toInCall.ns
 have ZV:s.heap.objs.size ≠ x:=Nat.ne_of_gt (Heap.lt_size hx)
 have X₁:K.In h₁:=X.keeps k
 have hx₁:=k _ _ hx
 have z:s.heap.objs.size < h₁.objs.size:=hn.lt
 show wpAny _ _ (execs _ _) _ _ _
 refine wpAny_execs_cons (plainObj_wpAny_Assign_Attribute ?_)
 refine xK.ldC (v:=v1) hn (by first | rfl | with_unfolding_all rfl | kernel_rfl) (xK.ldC (v:=.ref x) hn (by first | rfl | with_unfolding_all rfl | kernel_rfl) ?_)
 refine set_plain X₁ (ox:=excO C t0) (od:=none) ⟨hx₁,rfl,rfl,trivial⟩ T.sa ?_
 refine Dr X₁ hx₁ hcl rfl hbm rfl T.pJ (fun h₃ tk₃ dx k₃ dn dne hx₃ hn₃=>?_)
 show wpAny _ _ (execs _ _) _ _ _
 exact wpAny_execs_nil (hq h₃ tk₃ dx ⟨fun b o hb e=>k₃ b o hb (k b o e),hx₃,Nat.le_of_lt (Nat.lt_of_lt_of_le z dn),dne,hn₃⟩)
theorem iy {cn qn:Str} (T:bU K mg cn qn C fI) {v1:Value} {rest:List Value} {kws:List (Str×Value)} {hp:Heap} {g:Array GenState} {dr:Drawn} {tk:Nat} {os:OsState} {A':Around} (hbi:∀ x,Binds ⟨.ref x :: rest,kws⟩ x v1) (X:K.In hp) (hlim:hp.NoLimit) (hroom:A'.depth < recursionLimit)
  (hq:∀ h' tk e d,gM hp h' e C d v1->R (.ok (.ret (.ref e))) ⟨h',g,dr,tk,os⟩) :
  codeAny (model prog w) A' (.call (.ref fI) ⟨.ref (hp.objs.size+1) :: rest,kws⟩) (W.InitBack (hp.objs.size+1) R) ⟨(hp.push (kdv_tup rest)).push (excO C hp.objs.size),g,dr,tk,os⟩:=by
 have k:∀ b o,hp.get? b=some o->((hp.push (kdv_tup rest)).push (excO C hp.objs.size)).get? b=some o:=fun b o e=>Heap.get?_push_of_some _ (Heap.get?_push_of_some _ e)
 have hget:((hp.push (kdv_tup rest)).push (excO C hp.objs.size)).get? (hp.objs.size+1)=some (excO C hp.objs.size):=by heap_get
 have hnx:K.lookup (hp.objs.size+1)=none:=by
  cases e:K.lookup (hp.objs.size+1) with
  | none=>rfl
  | some o=>
   have z:hp.get? (hp.objs.size+1)=some o:=X _ _ e
   exact absurd (Nat.lt_of_succ_lt (Heap.lt_size z)) (Nat.lt_irrefl _)
 refine rM (s:=⟨(hp.push (kdv_tup rest)).push (excO C hp.objs.size),g,dr,tk,os⟩) T (hbi _) (X.keeps k) (hlim.keeps k) hget hnx hroom fun h' tk' dx ⟨k',hx,dn,dne,hns⟩=>?_
 have old:∀ b o,hp.get? b=some o->h'.get? b=some o:=fun b o e=>k' b o (Nat.ne_of_lt (Nat.lt_succ_of_lt (Heap.lt_size e))) (k b o e)
 have z:hp.objs.size+1+1≤dx:=by
  first
   | (simpa only [Heap.size_push] using dn)
   | exact dn
   | (have q:=dn; rw [Heap.size_push,Heap.size_push] at q; exact q)
 exact ⟨rfl,hq h' tk' (hp.objs.size+1) dx ⟨old,Nat.le_succ _,⟨_,_,hx,rfl,rfl,rfl,rfl⟩,Nat.le_trans (Nat.le_trans (Nat.le_succ _) (Nat.le_succ _)) z,dne,hns⟩⟩
theorem rN {cn qn:Str} (T:bU K mg cn qn C fI) {v1:Value} {rest:List Value} (hbi:∀ x,Binds ⟨.ref x :: rest,[]⟩ x v1) (hl:rest.length≤1000) (X:K.In s.heap) (hlim:s.heap.NoLimit) (hroom:A.depth+1 < recursionLimit)
  (hq:∀ h' tk e d,gM s.heap h' e C d v1->R (.ok (.ret (.ref e))) { s with heap:=h',toks:=tk }) :
  codeAny (model prog w) A (.call (.ref C) ⟨rest,[]⟩) R s:=by
 obtain ⟨nm,q,N,bs,bm,sn,sub,ab,col,dd,k0,k1,k2,k3,k5,hC,hbm⟩:=T.cls
 obtain ⟨hp,g,dr,tk,os⟩:=s
 refine call_own F.excBase_Exception (fun X=>hbm.has X) (X _ _ hC) (looks_findIn X T.iC) (fun self=>bind_fn X self T.tC) (Nat.le_trans hl (by rw [sizeLine_eq]; decide)) ?_
 exact iy T hbi X hlim hroom hq
theorem oM {cn qn:Str} (T:bU K mg cn qn C fI) {v1:Value} {kws:List (Str×Value)} (hbi:∀ x,Binds ⟨[.ref x],kws⟩ x v1) (X:K.In s.heap) (hlim:s.heap.NoLimit) (hroom:A.depth+1 < recursionLimit)
  (hq:∀ h' tk e d,gM s.heap h' e C d v1->R (.ok (.ret (.ref e))) { s with heap:=h',toks:=tk }) :
  codeAny (model prog w) A (.call (.ref C) ⟨[],kws⟩) R s:=by
 obtain ⟨nm,q,N,bs,bm,sn,sub,ab,col,dd,k0,k1,k2,k3,k5,hC,hbm⟩:=T.cls
 obtain ⟨hp,g,dr,tk,os⟩:=s
 refine Qg.Il F.excBase_Exception (fun X=>hbm.has X) (X _ _ hC) (looks_findIn X T.iC) (fun self=>bind_fn X self T.tC) ?_
 exact iy T hbi X hlim hroom hq
end
end pB
end PySem
namespace PySem
namespace pC
open PySem.W PySem.Calls PyProof.Rows PySem.HandSPX PySem.Ab
def iA (p1 p2:Pos):Arguments:={ posonlyargs:=[],args:=[{ arg:="self",annotation:=none,pos:=p1 },{ arg:="word",annotation:=none,pos:=p2 }],vararg:=none,kwonlyargs:=[],kw_defaults:=[],kwarg:=none,defaults:=[] }
def iB (q1 q2 q3 q4:Pos):List Stmt:=[.Assign [.Attribute (.Name "self" q1) "word" q2] (.Name "word" q3) q4]
def iS:Scope:={ kind:=.function,names:=[(PySem.Str.ofString "self", .local),(PySem.Str.ofString "word", .local)],isGenerator:=false,isCoroutine:=false,more:=[] }
structure bU (K:Frag) (mg:Str->Option Value) (cn qn:Str) (C fI:Addr):Prop where
 gC:mg cn=some (.ref C)
 cls:∃ nm q N bs bm sn sub ab col dd k0 k1 k2 k3 k5,K.lookup C=some (excClassObj nm q C N bs bm true sn sub ab col dd k0 k1 k2 k3 k5 "Exception.__new__")/\Ac bm
 sa:findIn K (.ref C) "__setattr__" = some (some (.builtin "object.__setattr__"))
 ga:findIn K (.ref C) "__getattribute__" = some (some (.builtin "BaseException.__getattribute__"))
 gg:findIn K (.ref C) "__getattr__" = some none
 pJ:findIn K (.ref C) "word" = some none
 iC:findIn K (.ref C) "__init__" = some (some (.ref fI))
 tC:typeIn K (.ref fI)=some (.type "function")
 kC:keepIn K (.ref C)=true
 exC:subIn K (.ref C) (.type "BaseException")=some true
 tyC:typeIn K (.ref C)=some (.type "type")
 hdC:hasDictIn K C=true
 te:exmOne K (.ref C) (.ref C)=some true
 fn:∃ (oc:Value) (od:Option Addr) (doc pm:Value) (an:Option Addr) (cdv ct:Value) (osl:Array (Option Value)) (p1 p2 q1 q2 q3 q4:Pos),
  K.lookup fI=some ⟨oc,od, .func (fnOf "__init__" qn (iA p1 p2) (iB q1 q2 q3 q4) iS .none .none doc pm an cdv ct),osl⟩/\codeIn K cdv qn=true
def Binds (args:Args) (x:Addr) (v1:Value):Prop:=∀ (qn:Str) (doc pm:Value) (an:Option Addr) (cdv ct:Value) (p1 p2 q1 q2 q3 q4:Pos),bindArgs (fnOf "__init__" qn (iA p1 p2) (iB q1 q2 q3 q4) iS .none .none doc pm an cdv ct) args=pure [(("self" : Str),Value.ref x),(("word" : Str),v1)]
structure vB (h h':Heap) (x C dx t1:Addr) (v1:Value):Prop where
 keep:∀ b o,b ≠ x->h.get? b=some o->h'.get? b=some o
 obj:h'.get? x=some { cls:=.ref C,dict:=some dx,data:=.fields #[.ref t1, .none, .none, .none, .bool false, .none] }
 mW:h.objs.size≤dx
 dne:dx ≠ x
 ns:h'.Ns1 dx (fun y:Str=>if y = "word" then some v1 else none)
structure gM (h h':Heap) (e C d:Addr) (v1:Value):Prop where
 keep:∀ b o,h.get? b=some o->h'.get? b=some o
 new:h.objs.size≤e
 obj:∃ oe vs,h'.get? e=some oe/\oe.cls = .ref C/\oe.dict=some d/\oe.data = .fields vs/\vs[1]? = some .none
 mW:h.objs.size≤d
 dne:d ≠ e
 ns:h'.Ns1 d (fun y:Str=>if y = "word" then some v1 else none)
section
variable {prog:Program} {w:World} {A:Around} {E:Value->Shared->Prop} {R:Result->Shared->Prop} {s:Shared} {K:Frag} {mg:Str->Option Value} {C fI:Addr}
theorem rM {cn qn:Str} (T:bU K mg cn qn C fI) {x t0:Addr} {v1:Value} {args:Args} (hb:Binds args x v1) (X:K.In s.heap) (hlim:s.heap.NoLimit) (hx:s.heap.get? x=some (excO C t0)) (hnx:K.lookup x=none) (hroom:A.depth < recursionLimit)
  (hq:∀ h' tk dx,vB s.heap h' x C dx t0 v1->R (.ok (.ret .none)) { s with heap:=h',toks:=tk }) :
  codeAny (model prog w) A (.call (.ref fI) args) R s:=by
 obtain ⟨oc,od,doc,pm,an,cdv,ct,osl,p1,p2,q1,q2,q3,q4,ho,hcd⟩:=T.fn
 obtain ⟨nm,q,N,bs,bm,sn,sub,ab,col,dd,k0,k1,k2,k3,k5,hC,hbm⟩:=T.cls
 have hcl:clsIn K C=some { name:=nm,bases:=bs,mro:=.ref C :: bm,ns:=N,qualname:=q,hasDict:=true,slotNames:=sn,subclasses:=sub,abstract:=ab,collection:=col,hasDel:=false }:=by unfold clsIn; rw [hC] <;> rfl
 refine Att.call_fn (binds:=[(("self" : Str),Value.ref x),(("word" : Str),v1)]) X hlim ho hcd hroom (BindsTo.of_eq (hb _ _ _ _ _ _ _ _ _ _ _ _)) (by first | rfl | decide | with_unfolding_all rfl) (fun s₁ IC=>?_) rfl rfl rfl
 obtain ⟨h₁,tk₁,rfl⟩:=IC.toInCall.same
 have k:∀ b o,s.heap.get? b=some o->h₁.get? b=some o:=IC.toInCall.keep
 have hn:=IC.toInCall.ns
 have ZV:s.heap.objs.size ≠ x:=Nat.ne_of_gt (Heap.lt_size hx)
 have X₁:K.In h₁:=X.keeps k
 have hx₁:=k _ _ hx
 have z:s.heap.objs.size < h₁.objs.size:=hn.lt
 show wpAny _ _ (execs _ _) _ _ _
 refine wpAny_execs_cons (plainObj_wpAny_Assign_Attribute ?_)
 refine xK.ldC (v:=v1) hn (by first | rfl | with_unfolding_all rfl | kernel_rfl) (xK.ldC (v:=.ref x) hn (by first | rfl | with_unfolding_all rfl | kernel_rfl) ?_)
 refine set_plain X₁ (ox:=excO C t0) (od:=none) ⟨hx₁,rfl,rfl,trivial⟩ T.sa ?_
 refine Dr X₁ hx₁ hcl rfl hbm rfl T.pJ (fun h₃ tk₃ dx k₃ dn dne hx₃ hn₃=>?_)
 show wpAny _ _ (execs _ _) _ _ _
 exact wpAny_execs_nil (hq h₃ tk₃ dx ⟨fun b o hb e=>k₃ b o hb (k b o e),hx₃,Nat.le_of_lt (Nat.lt_of_lt_of_le z dn),dne,hn₃⟩)
theorem iy {cn qn:Str} (T:bU K mg cn qn C fI) {v1:Value} {rest:List Value} {kws:List (Str×Value)} {hp:Heap} {g:Array GenState} {dr:Drawn} {tk:Nat} {os:OsState} {A':Around} (hbi:∀ x,Binds ⟨.ref x :: rest,kws⟩ x v1) (X:K.In hp) (hlim:hp.NoLimit) (hroom:A'.depth < recursionLimit)
  (hq:∀ h' tk e d,gM hp h' e C d v1->R (.ok (.ret (.ref e))) ⟨h',g,dr,tk,os⟩) :
  codeAny (model prog w) A' (.call (.ref fI) ⟨.ref (hp.objs.size+1) :: rest,kws⟩) (W.InitBack (hp.objs.size+1) R) ⟨(hp.push (kdv_tup rest)).push (excO C hp.objs.size),g,dr,tk,os⟩:=by
 have k:∀ b o,hp.get? b=some o->((hp.push (kdv_tup rest)).push (excO C hp.objs.size)).get? b=some o:=fun b o e=>Heap.get?_push_of_some _ (Heap.get?_push_of_some _ e)
 have hget:((hp.push (kdv_tup rest)).push (excO C hp.objs.size)).get? (hp.objs.size+1)=some (excO C hp.objs.size):=by heap_get
 have hnx:K.lookup (hp.objs.size+1)=none:=by
  cases e:K.lookup (hp.objs.size+1) with
  | none=>rfl
  | some o=>
   have z:hp.get? (hp.objs.size+1)=some o:=X _ _ e
   exact absurd (Nat.lt_of_succ_lt (Heap.lt_size z)) (Nat.lt_irrefl _)
 refine rM (s:=⟨(hp.push (kdv_tup rest)).push (excO C hp.objs.size),g,dr,tk,os⟩) T (hbi _) (X.keeps k) (hlim.keeps k) hget hnx hroom fun h' tk' dx ⟨k',hx,dn,dne,hns⟩=>?_
 have old:∀ b o,hp.get? b=some o->h'.get? b=some o:=fun b o e=>k' b o (Nat.ne_of_lt (Nat.lt_succ_of_lt (Heap.lt_size e))) (k b o e)
 have z:hp.objs.size+1+1≤dx:=by
  first
   | (simpa only [Heap.size_push] using dn)
   | exact dn
   | (have q:=dn; rw [Heap.size_push,Heap.size_push] at q; exact q)
 exact ⟨rfl,hq h' tk' (hp.objs.size+1) dx ⟨old,Nat.le_succ _,⟨_,_,hx,rfl,rfl,rfl,rfl⟩,Nat.le_trans (Nat.le_trans (Nat.le_succ _) (Nat.le_succ _)) z,dne,hns⟩⟩
theorem rN {cn qn:Str} (T:bU K mg cn qn C fI) {v1:Value} {rest:List Value} (hbi:∀ x,Binds ⟨.ref x :: rest,[]⟩ x v1) (hl:rest.length≤1000) (X:K.In s.heap) (hlim:s.heap.NoLimit) (hroom:A.depth+1 < recursionLimit)
  (hq:∀ h' tk e d,gM s.heap h' e C d v1->R (.ok (.ret (.ref e))) { s with heap:=h',toks:=tk }) :
  codeAny (model prog w) A (.call (.ref C) ⟨rest,[]⟩) R s:=by
 obtain ⟨nm,q,N,bs,bm,sn,sub,ab,col,dd,k0,k1,k2,k3,k5,hC,hbm⟩:=T.cls
 obtain ⟨hp,g,dr,tk,os⟩:=s
 refine call_own F.excBase_Exception (fun X=>hbm.has X) (X _ _ hC) (looks_findIn X T.iC) (fun self=>bind_fn X self T.tC) (Nat.le_trans hl (by rw [sizeLine_eq]; decide)) ?_
 exact iy T hbi X hlim hroom hq
theorem oM {cn qn:Str} (T:bU K mg cn qn C fI) {v1:Value} {kws:List (Str×Value)} (hbi:∀ x,Binds ⟨[.ref x],kws⟩ x v1) (X:K.In s.heap) (hlim:s.heap.NoLimit) (hroom:A.depth+1 < recursionLimit)
  (hq:∀ h' tk e d,gM s.heap h' e C d v1->R (.ok (.ret (.ref e))) { s with heap:=h',toks:=tk }) :
  codeAny (model prog w) A (.call (.ref C) ⟨[],kws⟩) R s:=by
 obtain ⟨nm,q,N,bs,bm,sn,sub,ab,col,dd,k0,k1,k2,k3,k5,hC,hbm⟩:=T.cls
 obtain ⟨hp,g,dr,tk,os⟩:=s
 refine Qg.Il F.excBase_Exception (fun X=>hbm.has X) (X _ _ hC) (looks_findIn X T.iC) (fun self=>bind_fn X self T.tC) ?_
 exact iy T hbi X hlim hroom hq
end
end pC
end PySem
namespace PySem
namespace jK
open PySem.W PySem.Calls PyProof.Rows PySem.HandSPX PySem.Ab
def iA (p1 p2:Pos):Arguments:={ posonlyargs:=[],args:=[{ arg:="self",annotation:=none,pos:=p1 },{ arg:="at",annotation:=none,pos:=p2 }],vararg:=none,kwonlyargs:=[],kw_defaults:=[],kwarg:=none,defaults:=[] }
def iB (q1 q2 q3 q4:Pos):List Stmt:=[.Assign [.Attribute (.Name "self" q1) "at" q2] (.Name "at" q3) q4]
def iS:Scope:={ kind:=.function,names:=[(PySem.Str.ofString "self", .local),(PySem.Str.ofString "at", .local)],isGenerator:=false,isCoroutine:=false,more:=[] }
structure bU (K:Frag) (mg:Str->Option Value) (cn qn:Str) (C fI:Addr):Prop where
 gC:mg cn=some (.ref C)
 cls:∃ nm q N bs bm sn sub ab col dd k0 k1 k2 k3 k5,K.lookup C=some (excClassObj nm q C N bs bm true sn sub ab col dd k0 k1 k2 k3 k5 "Exception.__new__")/\Ac bm
 sa:findIn K (.ref C) "__setattr__" = some (some (.builtin "object.__setattr__"))
 ga:findIn K (.ref C) "__getattribute__" = some (some (.builtin "BaseException.__getattribute__"))
 gg:findIn K (.ref C) "__getattr__" = some none
 pJ:findIn K (.ref C) "at" = some none
 iC:findIn K (.ref C) "__init__" = some (some (.ref fI))
 tC:typeIn K (.ref fI)=some (.type "function")
 kC:keepIn K (.ref C)=true
 exC:subIn K (.ref C) (.type "BaseException")=some true
 tyC:typeIn K (.ref C)=some (.type "type")
 hdC:hasDictIn K C=true
 te:exmOne K (.ref C) (.ref C)=some true
 fn:∃ (oc:Value) (od:Option Addr) (doc pm:Value) (an:Option Addr) (cdv ct:Value) (osl:Array (Option Value)) (p1 p2 q1 q2 q3 q4:Pos),
  K.lookup fI=some ⟨oc,od, .func (fnOf "__init__" qn (iA p1 p2) (iB q1 q2 q3 q4) iS .none .none doc pm an cdv ct),osl⟩/\codeIn K cdv qn=true
def Binds (args:Args) (x:Addr) (v1:Value):Prop:=∀ (qn:Str) (doc pm:Value) (an:Option Addr) (cdv ct:Value) (p1 p2 q1 q2 q3 q4:Pos),bindArgs (fnOf "__init__" qn (iA p1 p2) (iB q1 q2 q3 q4) iS .none .none doc pm an cdv ct) args=pure [(("self" : Str),Value.ref x),(("at" : Str),v1)]
structure vB (h h':Heap) (x C dx t1:Addr) (v1:Value):Prop where
 keep:∀ b o,b ≠ x->h.get? b=some o->h'.get? b=some o
 obj:h'.get? x=some { cls:=.ref C,dict:=some dx,data:=.fields #[.ref t1, .none, .none, .none, .bool false, .none] }
 mW:h.objs.size≤dx
 dne:dx ≠ x
 ns:h'.Ns1 dx (fun y:Str=>if y = "at" then some v1 else none)
structure gM (h h':Heap) (e C d:Addr) (v1:Value):Prop where
 keep:∀ b o,h.get? b=some o->h'.get? b=some o
 new:h.objs.size≤e
 obj:∃ oe vs,h'.get? e=some oe/\oe.cls = .ref C/\oe.dict=some d/\oe.data = .fields vs/\vs[1]? = some .none
 mW:h.objs.size≤d
 dne:d ≠ e
 ns:h'.Ns1 d (fun y:Str=>if y = "at" then some v1 else none)
section
variable {prog:Program} {w:World} {A:Around} {E:Value->Shared->Prop} {R:Result->Shared->Prop} {s:Shared} {K:Frag} {mg:Str->Option Value} {C fI:Addr}
theorem rM {cn qn:Str} (T:bU K mg cn qn C fI) {x t0:Addr} {v1:Value} {args:Args} (hb:Binds args x v1) (X:K.In s.heap) (hlim:s.heap.NoLimit) (hx:s.heap.get? x=some (excO C t0)) (hnx:K.lookup x=none) (hroom:A.depth < recursionLimit)
  (hq:∀ h' tk dx,vB s.heap h' x C dx t0 v1->R (.ok (.ret .none)) { s with heap:=h',toks:=tk }) :
  codeAny (model prog w) A (.call (.ref fI) args) R s:=by
 obtain ⟨oc,od,doc,pm,an,cdv,ct,osl,p1,p2,q1,q2,q3,q4,ho,hcd⟩:=T.fn
 obtain ⟨nm,q,N,bs,bm,sn,sub,ab,col,dd,k0,k1,k2,k3,k5,hC,hbm⟩:=T.cls
 have hcl:clsIn K C=some { name:=nm,bases:=bs,mro:=.ref C :: bm,ns:=N,qualname:=q,hasDict:=true,slotNames:=sn,subclasses:=sub,abstract:=ab,collection:=col,hasDel:=false }:=by unfold clsIn; rw [hC] <;> rfl
 refine Att.call_fn (binds:=[(("self" : Str),Value.ref x),(("at" : Str),v1)]) X hlim ho hcd hroom (BindsTo.of_eq (hb _ _ _ _ _ _ _ _ _ _ _ _)) (by first | rfl | decide | with_unfolding_all rfl) (fun s₁ IC=>?_) rfl rfl rfl
 obtain ⟨h₁,tk₁,rfl⟩:=IC.toInCall.same
 have k:∀ b o,s.heap.get? b=some o->h₁.get? b=some o:=IC.toInCall.keep
 have hn:=IC.toInCall.ns
 have ZV:s.heap.objs.size ≠ x:=Nat.ne_of_gt (Heap.lt_size hx)
 have X₁:K.In h₁:=X.keeps k
 have hx₁:=k _ _ hx
 have z:s.heap.objs.size < h₁.objs.size:=hn.lt
 show wpAny _ _ (execs _ _) _ _ _
 refine wpAny_execs_cons (plainObj_wpAny_Assign_Attribute ?_)
 refine xK.ldC (v:=v1) hn (by first | rfl | with_unfolding_all rfl | kernel_rfl) (xK.ldC (v:=.ref x) hn (by first | rfl | with_unfolding_all rfl | kernel_rfl) ?_)
 refine set_plain X₁ (ox:=excO C t0) (od:=none) ⟨hx₁,rfl,rfl,trivial⟩ T.sa ?_
 refine Dr X₁ hx₁ hcl rfl hbm rfl T.pJ (fun h₃ tk₃ dx k₃ dn dne hx₃ hn₃=>?_)
 show wpAny _ _ (execs _ _) _ _ _
 exact wpAny_execs_nil (hq h₃ tk₃ dx ⟨fun b o hb e=>k₃ b o hb (k b o e),hx₃,Nat.le_of_lt (Nat.lt_of_lt_of_le z dn),dne,hn₃⟩)
theorem iy {cn qn:Str} (T:bU K mg cn qn C fI) {v1:Value} {rest:List Value} {kws:List (Str×Value)} {hp:Heap} {g:Array GenState} {dr:Drawn} {tk:Nat} {os:OsState} {A':Around} (hbi:∀ x,Binds ⟨.ref x :: rest,kws⟩ x v1) (X:K.In hp) (hlim:hp.NoLimit) (hroom:A'.depth < recursionLimit)
  (hq:∀ h' tk e d,gM hp h' e C d v1->R (.ok (.ret (.ref e))) ⟨h',g,dr,tk,os⟩) :
  codeAny (model prog w) A' (.call (.ref fI) ⟨.ref (hp.objs.size+1) :: rest,kws⟩) (W.InitBack (hp.objs.size+1) R) ⟨(hp.push (kdv_tup rest)).push (excO C hp.objs.size),g,dr,tk,os⟩:=by
 have k:∀ b o,hp.get? b=some o->((hp.push (kdv_tup rest)).push (excO C hp.objs.size)).get? b=some o:=fun b o e=>Heap.get?_push_of_some _ (Heap.get?_push_of_some _ e)
 have hget:((hp.push (kdv_tup rest)).push (excO C hp.objs.size)).get? (hp.objs.size+1)=some (excO C hp.objs.size):=by heap_get
 have hnx:K.lookup (hp.objs.size+1)=none:=by
  cases e:K.lookup (hp.objs.size+1) with
  | none=>rfl
  | some o=>
   have z:hp.get? (hp.objs.size+1)=some o:=X _ _ e
   exact absurd (Nat.lt_of_succ_lt (Heap.lt_size z)) (Nat.lt_irrefl _)
 refine rM (s:=⟨(hp.push (kdv_tup rest)).push (excO C hp.objs.size),g,dr,tk,os⟩) T (hbi _) (X.keeps k) (hlim.keeps k) hget hnx hroom fun h' tk' dx ⟨k',hx,dn,dne,hns⟩=>?_
 have old:∀ b o,hp.get? b=some o->h'.get? b=some o:=fun b o e=>k' b o (Nat.ne_of_lt (Nat.lt_succ_of_lt (Heap.lt_size e))) (k b o e)
 have z:hp.objs.size+1+1≤dx:=by
  first
   | (simpa only [Heap.size_push] using dn)
   | exact dn
   | (have q:=dn; rw [Heap.size_push,Heap.size_push] at q; exact q)
 exact ⟨rfl,hq h' tk' (hp.objs.size+1) dx ⟨old,Nat.le_succ _,⟨_,_,hx,rfl,rfl,rfl,rfl⟩,Nat.le_trans (Nat.le_trans (Nat.le_succ _) (Nat.le_succ _)) z,dne,hns⟩⟩
theorem rN {cn qn:Str} (T:bU K mg cn qn C fI) {v1:Value} {rest:List Value} (hbi:∀ x,Binds ⟨.ref x :: rest,[]⟩ x v1) (hl:rest.length≤1000) (X:K.In s.heap) (hlim:s.heap.NoLimit) (hroom:A.depth+1 < recursionLimit)
  (hq:∀ h' tk e d,gM s.heap h' e C d v1->R (.ok (.ret (.ref e))) { s with heap:=h',toks:=tk }) :
  codeAny (model prog w) A (.call (.ref C) ⟨rest,[]⟩) R s:=by
 obtain ⟨nm,q,N,bs,bm,sn,sub,ab,col,dd,k0,k1,k2,k3,k5,hC,hbm⟩:=T.cls
 obtain ⟨hp,g,dr,tk,os⟩:=s
 refine call_own F.excBase_Exception (fun X=>hbm.has X) (X _ _ hC) (looks_findIn X T.iC) (fun self=>bind_fn X self T.tC) (Nat.le_trans hl (by rw [sizeLine_eq]; decide)) ?_
 exact iy T hbi X hlim hroom hq
theorem oM {cn qn:Str} (T:bU K mg cn qn C fI) {v1:Value} {kws:List (Str×Value)} (hbi:∀ x,Binds ⟨[.ref x],kws⟩ x v1) (X:K.In s.heap) (hlim:s.heap.NoLimit) (hroom:A.depth+1 < recursionLimit)
  (hq:∀ h' tk e d,gM s.heap h' e C d v1->R (.ok (.ret (.ref e))) { s with heap:=h',toks:=tk }) :
  codeAny (model prog w) A (.call (.ref C) ⟨[],kws⟩) R s:=by
 obtain ⟨nm,q,N,bs,bm,sn,sub,ab,col,dd,k0,k1,k2,k3,k5,hC,hbm⟩:=T.cls
 obtain ⟨hp,g,dr,tk,os⟩:=s
 refine Qg.Il F.excBase_Exception (fun X=>hbm.has X) (X _ _ hC) (looks_findIn X T.iC) (fun self=>bind_fn X self T.tC) ?_
 exact iy T hbi X hlim hroom hq
end
end jK
end PySem
namespace PySem
namespace fV
open PySem.W PySem.Calls PyProof.Rows PySem.HandSPX PySem.Ab
def iA (p1 p2 p3:Pos):Arguments:={ posonlyargs:=[],args:=[{ arg:="self",annotation:=none,pos:=p1 },{ arg:="word",annotation:=none,pos:=p2 },{ arg:="text",annotation:=none,pos:=p3 }],vararg:=none,kwonlyargs:=[],kw_defaults:=[],kwarg:=none,defaults:=[] }
def iB (q1 q2 q3 q4 q5 q6 q7 q8:Pos):List Stmt:=[.Assign [.Attribute (.Name "self" q1) "word" q2] (.Name "word" q3) q4, .Assign [.Attribute (.Name "self" q5) "text" q6] (.Name "text" q7) q8]
def iS:Scope:={ kind:=.function,names:=[(PySem.Str.ofString "self", .local),(PySem.Str.ofString "word", .local),(PySem.Str.ofString "text", .local)],isGenerator:=false,isCoroutine:=false,more:=[] }
structure bU (K:Frag) (mg:Str->Option Value) (cn qn:Str) (C fI:Addr):Prop where
 gC:mg cn=some (.ref C)
 cls:∃ nm q N bs bm sn sub ab col dd k0 k1 k2 k3 k5,K.lookup C=some (excClassObj nm q C N bs bm true sn sub ab col dd k0 k1 k2 k3 k5 "Exception.__new__")/\Ac bm
 sa:findIn K (.ref C) "__setattr__" = some (some (.builtin "object.__setattr__"))
 ga:findIn K (.ref C) "__getattribute__" = some (some (.builtin "BaseException.__getattribute__"))
 gg:findIn K (.ref C) "__getattr__" = some none
 pJ:findIn K (.ref C) "word" = some none
 ZW:findIn K (.ref C) "text" = some none
 iC:findIn K (.ref C) "__init__" = some (some (.ref fI))
 tC:typeIn K (.ref fI)=some (.type "function")
 kC:keepIn K (.ref C)=true
 exC:subIn K (.ref C) (.type "BaseException")=some true
 tyC:typeIn K (.ref C)=some (.type "type")
 hdC:hasDictIn K C=true
 te:exmOne K (.ref C) (.ref C)=some true
 fn:∃ (oc:Value) (od:Option Addr) (doc pm:Value) (an:Option Addr) (cdv ct:Value) (osl:Array (Option Value)) (p1 p2 p3 q1 q2 q3 q4 q5 q6 q7 q8:Pos),
  K.lookup fI=some ⟨oc,od, .func (fnOf "__init__" qn (iA p1 p2 p3) (iB q1 q2 q3 q4 q5 q6 q7 q8) iS .none .none doc pm an cdv ct),osl⟩/\codeIn K cdv qn=true
def Binds (args:Args) (x:Addr) (v1 v2:Value):Prop:=∀ (qn:Str) (doc pm:Value) (an:Option Addr) (cdv ct:Value) (p1 p2 p3 q1 q2 q3 q4 q5 q6 q7 q8:Pos),bindArgs (fnOf "__init__" qn (iA p1 p2 p3) (iB q1 q2 q3 q4 q5 q6 q7 q8) iS .none .none doc pm an cdv ct) args=pure [(("self" : Str),Value.ref x),(("word" : Str),v1),(("text" : Str),v2)]
structure vB (h h':Heap) (x C dx t1:Addr) (v1 v2:Value):Prop where
 keep:∀ b o,b ≠ x->h.get? b=some o->h'.get? b=some o
 obj:h'.get? x=some { cls:=.ref C,dict:=some dx,data:=.fields #[.ref t1, .none, .none, .none, .bool false, .none] }
 mW:h.objs.size≤dx
 dne:dx ≠ x
 ns:h'.Ns1 dx (fun y:Str=>if y = "text" then some v2 else (fun y:Str=>if y = "word" then some v1 else none) y)
structure gM (h h':Heap) (e C d:Addr) (v1 v2:Value):Prop where
 keep:∀ b o,h.get? b=some o->h'.get? b=some o
 new:h.objs.size≤e
 obj:∃ oe vs,h'.get? e=some oe/\oe.cls = .ref C/\oe.dict=some d/\oe.data = .fields vs/\vs[1]? = some .none
 mW:h.objs.size≤d
 dne:d ≠ e
 ns:h'.Ns1 d (fun y:Str=>if y = "text" then some v2 else (fun y:Str=>if y = "word" then some v1 else none) y)
section
variable {prog:Program} {w:World} {A:Around} {E:Value->Shared->Prop} {R:Result->Shared->Prop} {s:Shared} {K:Frag} {mg:Str->Option Value} {C fI:Addr}
theorem rM {cn qn:Str} (T:bU K mg cn qn C fI) {x t0:Addr} {v1 v2:Value} {args:Args} (hb:Binds args x v1 v2) (X:K.In s.heap) (hlim:s.heap.NoLimit) (hx:s.heap.get? x=some (excO C t0)) (hnx:K.lookup x=none) (hroom:A.depth < recursionLimit)
  (hq:∀ h' tk dx,vB s.heap h' x C dx t0 v1 v2->R (.ok (.ret .none)) { s with heap:=h',toks:=tk }) :
  codeAny (model prog w) A (.call (.ref fI) args) R s:=by
 obtain ⟨oc,od,doc,pm,an,cdv,ct,osl,p1,p2,p3,q1,q2,q3,q4,q5,q6,q7,q8,ho,hcd⟩:=T.fn
 obtain ⟨nm,q,N,bs,bm,sn,sub,ab,col,dd,k0,k1,k2,k3,k5,hC,hbm⟩:=T.cls
 have hcl:clsIn K C=some { name:=nm,bases:=bs,mro:=.ref C :: bm,ns:=N,qualname:=q,hasDict:=true,slotNames:=sn,subclasses:=sub,abstract:=ab,collection:=col,hasDel:=false }:=by unfold clsIn; rw [hC] <;> rfl
 refine Att.call_fn (binds:=[(("self" : Str),Value.ref x),(("word" : Str),v1),(("text" : Str),v2)]) X hlim ho hcd hroom (BindsTo.of_eq (hb _ _ _ _ _ _ _ _ _ _ _ _ _ _ _ _ _)) (by first | rfl | decide | with_unfolding_all rfl) (fun s₁ IC=>?_) rfl rfl rfl
 obtain ⟨h₁,tk₁,rfl⟩:=IC.toInCall.same
 have k:∀ b o,s.heap.get? b=some o->h₁.get? b=some o:=IC.toInCall.keep
 have hn:=IC.toInCall.ns
 have ZV:s.heap.objs.size ≠ x:=Nat.ne_of_gt (Heap.lt_size hx)
 have X₁:K.In h₁:=X.keeps k
 have hx₁:=k _ _ hx
 have z:s.heap.objs.size < h₁.objs.size:=hn.lt
 show wpAny _ _ (execs _ _) _ _ _
 refine wpAny_execs_cons (plainObj_wpAny_Assign_Attribute ?_)
 refine xK.ldC (v:=v1) hn (by first | rfl | with_unfolding_all rfl | kernel_rfl) (xK.ldC (v:=.ref x) hn (by first | rfl | with_unfolding_all rfl | kernel_rfl) ?_)
 refine set_plain X₁ (ox:=excO C t0) (od:=none) ⟨hx₁,rfl,rfl,trivial⟩ T.sa ?_
 refine Dr X₁ hx₁ hcl rfl hbm rfl T.pJ (fun h₃ tk₃ dx k₃ dn dne hx₃ hn₃=>?_)
 show wpAny _ _ (execs _ _) _ _ _
 have X₃:K.In h₃:=xK.YS X₁ hnx k₃
 have hnL:=hn.at (h':=h₃) (fun o q=>k₃ _ o ZV q)
 refine wpAny_execs_cons (plainObj_wpAny_Assign_Attribute ?_)
 refine xK.ldC (v:=v2) hnL (by first | rfl | with_unfolding_all rfl | kernel_rfl) (xK.ldC (v:=.ref x) hnL (by first | rfl | with_unfolding_all rfl | kernel_rfl) ?_)
 obtain ⟨oD,esD,epD,hoD,hdD,_⟩:=hn₃.count (ns:=["word"]) (Within.cons "word" v1 Within.nil)
 refine set_plain X₃ (ox:={ cls:=.ref C,dict:=some dx,data:=.fields #[.ref t0, .none, .none, .none, .bool false, .none] }) (od:=some oD) ⟨hx₃,rfl,rfl,hoD⟩ T.sa ?_
 refine YX X₃ hx₃ hn₃ (nl:=["word"]) (Within.cons "word" v1 Within.nil) (by decide) hcl rfl hbm rfl T.ZW (fun h₄ tk₄ k₄ hn₄=>?_)
 show wpAny _ _ (execs _ _) _ _ _
 have old:∀ b o,b ≠ x->s.heap.get? b=some o->b ≠ dx:=fun b o _ e z2=>by
  have lt:=Heap.lt_size e
  rw [z2] at lt
  exact absurd (Nat.lt_trans lt z) (Nat.not_lt.mpr dn)
 exact wpAny_execs_nil (hq h₄ tk₄ dx ⟨fun b o hb e=>k₄ b o (old b o hb e) (k₃ b o hb (k b o e)),k₄ x _ (Ne.symm dne) hx₃,Nat.le_of_lt (Nat.lt_of_lt_of_le z dn),dne,hn₄⟩)
theorem iy {cn qn:Str} (T:bU K mg cn qn C fI) {v1 v2:Value} {rest:List Value} {kws:List (Str×Value)} {hp:Heap} {g:Array GenState} {dr:Drawn} {tk:Nat} {os:OsState} {A':Around} (hbi:∀ x,Binds ⟨.ref x :: rest,kws⟩ x v1 v2) (X:K.In hp) (hlim:hp.NoLimit) (hroom:A'.depth < recursionLimit)
  (hq:∀ h' tk e d,gM hp h' e C d v1 v2->R (.ok (.ret (.ref e))) ⟨h',g,dr,tk,os⟩) :
  codeAny (model prog w) A' (.call (.ref fI) ⟨.ref (hp.objs.size+1) :: rest,kws⟩) (W.InitBack (hp.objs.size+1) R) ⟨(hp.push (kdv_tup rest)).push (excO C hp.objs.size),g,dr,tk,os⟩:=by
 have k:∀ b o,hp.get? b=some o->((hp.push (kdv_tup rest)).push (excO C hp.objs.size)).get? b=some o:=fun b o e=>Heap.get?_push_of_some _ (Heap.get?_push_of_some _ e)
 have hget:((hp.push (kdv_tup rest)).push (excO C hp.objs.size)).get? (hp.objs.size+1)=some (excO C hp.objs.size):=by heap_get
 have hnx:K.lookup (hp.objs.size+1)=none:=by
  cases e:K.lookup (hp.objs.size+1) with
  | none=>rfl
  | some o=>
   have z:hp.get? (hp.objs.size+1)=some o:=X _ _ e
   exact absurd (Nat.lt_of_succ_lt (Heap.lt_size z)) (Nat.lt_irrefl _)
 refine rM (s:=⟨(hp.push (kdv_tup rest)).push (excO C hp.objs.size),g,dr,tk,os⟩) T (hbi _) (X.keeps k) (hlim.keeps k) hget hnx hroom fun h' tk' dx ⟨k',hx,dn,dne,hns⟩=>?_
 have old:∀ b o,hp.get? b=some o->h'.get? b=some o:=fun b o e=>k' b o (Nat.ne_of_lt (Nat.lt_succ_of_lt (Heap.lt_size e))) (k b o e)
 have z:hp.objs.size+1+1≤dx:=by
  first
   | (simpa only [Heap.size_push] using dn)
   | exact dn
   | (have q:=dn; rw [Heap.size_push,Heap.size_push] at q; exact q)
 exact ⟨rfl,hq h' tk' (hp.objs.size+1) dx ⟨old,Nat.le_succ _,⟨_,_,hx,rfl,rfl,rfl,rfl⟩,Nat.le_trans (Nat.le_trans (Nat.le_succ _) (Nat.le_succ _)) z,dne,hns⟩⟩
theorem rN {cn qn:Str} (T:bU K mg cn qn C fI) {v1 v2:Value} {rest:List Value} (hbi:∀ x,Binds ⟨.ref x :: rest,[]⟩ x v1 v2) (hl:rest.length≤1000) (X:K.In s.heap) (hlim:s.heap.NoLimit) (hroom:A.depth+1 < recursionLimit)
  (hq:∀ h' tk e d,gM s.heap h' e C d v1 v2->R (.ok (.ret (.ref e))) { s with heap:=h',toks:=tk }) :
  codeAny (model prog w) A (.call (.ref C) ⟨rest,[]⟩) R s:=by
 obtain ⟨nm,q,N,bs,bm,sn,sub,ab,col,dd,k0,k1,k2,k3,k5,hC,hbm⟩:=T.cls
 obtain ⟨hp,g,dr,tk,os⟩:=s
 refine call_own F.excBase_Exception (fun X=>hbm.has X) (X _ _ hC) (looks_findIn X T.iC) (fun self=>bind_fn X self T.tC) (Nat.le_trans hl (by rw [sizeLine_eq]; decide)) ?_
 exact iy T hbi X hlim hroom hq
theorem oM {cn qn:Str} (T:bU K mg cn qn C fI) {v1 v2:Value} {kws:List (Str×Value)} (hbi:∀ x,Binds ⟨[.ref x],kws⟩ x v1 v2) (X:K.In s.heap) (hlim:s.heap.NoLimit) (hroom:A.depth+1 < recursionLimit)
  (hq:∀ h' tk e d,gM s.heap h' e C d v1 v2->R (.ok (.ret (.ref e))) { s with heap:=h',toks:=tk }) :
  codeAny (model prog w) A (.call (.ref C) ⟨[],kws⟩) R s:=by
 obtain ⟨nm,q,N,bs,bm,sn,sub,ab,col,dd,k0,k1,k2,k3,k5,hC,hbm⟩:=T.cls
 obtain ⟨hp,g,dr,tk,os⟩:=s
 refine Qg.Il F.excBase_Exception (fun X=>hbm.has X) (X _ _ hC) (looks_findIn X T.iC) (fun self=>bind_fn X self T.tC) ?_
 exact iy T hbi X hlim hroom hq
end
end fV
end PySem
namespace DL
open PySem PySem.Spec PyProof.Rows L2
structure Gy (K:PySem.W.Frag) (C:Addr):Prop where
 ga:yI K C
 gg:PySem.W.findIn K (.ref C) "__getattr__" = some none
 exC:PySem.W.subIn K (.ref C) (.type "BaseException")=some true
 hdC:PySem.W.hasDictIn K C=true
 ha:PySem.W.findIn K (.ref C) "__class__" = some (some (.builtin "object.__class__"))
 hn:PySem.W.specialIn K (.builtin "object.__class__") "__get__" = some (some (.builtin "getset_descriptor.__get__"))
 ht:PySem.W.takesIn K (.builtin "object.__class__")=some true
 hm:PySem.W.mroIn K C (.type "object")=some true
def CK (X:Cx) (C:Addr) (FS:List Str) (gb:List Value->Args) (π:List Nat):Prop:=
 ∀ {A:Around} {R:Result->Shared->Prop} {s:Shared} (us vs:List Value),(π.map fun i=>us[i]?)=vs.map some->us.length=FS.length->X.K.In s.heap->s.heap.NoLimit->A.depth+1 < recursionLimit ->
  (∀ h' tk e d,(∀ b o,s.heap.get? b=some o->h'.get? b=some o)->s.heap.objs.size≤e->(∃ (oe:Obj) (fv:Array Value),h'.get? e=some oe/\oe.cls = .ref C/\oe.dict=some d/\oe.data = .fields fv/\fv[1]? = some .none)->s.heap.objs.size≤d->d ≠ e->(∃ mA,h'.Ns1 d mA/\∀ f,mA f=(FS.zip vs).lookup f)->R (.ok (.ret (.ref e))) { s with heap:=h',toks:=tk }) ->
  codeAny (model X.prog X.w) A (.call (.ref C) (gb us)) R s
def DP {α:Type}:List Nat->List α->Option (List α)
 | [],_=>some []
 | i :: r,l=>match l[i]?,DP r l with
  | some x,some xs=>some (x :: xs)
  | _,_=>none
def Vz:List Rv->Option (List D)
 | []=>some []
 | .im d :: r=>(Vz r).map (d :: ·)
 | .sl _ :: _=>none
def Nf (c:Str) (FS:List Str) (π:List Nat) (rs:List Rv):Option D:=(Vz rs).bind fun ds=>if ds.length=FS.length/\π.length=FS.length then (DP π ds).map fun es => .ob c FS es else none
def jW (c:Str) (FS:List Str) (π:List Nat) (As:List AE):AE:=fun ss=>(cM As ss).bind fun rs s=>Out.ofD (Nf c FS π rs) s
theorem Ql {K:Kw} {G:Hp} {vs:List V} {us:List Value} {ds:List D} (rr:au K G vs ds) (r:Vals vs us):∀ {π:List Nat} {es:List D},DP π ds=some es->∃ (ws:List V) (ys:List Value),(π.map fun i=>us[i]?)=ys.map some/\Vals ws ys/\au K G ws es/\ws.length=π.length
 | [],es,h=>by cases h; exact ⟨[],[],rfl, .nil, .nil,rfl⟩
 | i :: π,es,h=>by
  unfold DP at h
  split at h
  ·rename_i x xs e1 e2
   cases h
   obtain ⟨ws,ys,a1,a2,a3,a4⟩:=Ql rr r e2
   obtain ⟨v,hv,rv⟩:=rr.get e1
   obtain ⟨u,hu,ru⟩:∃ u,us[i]? = some u/\RelV v u:=by
    clear a1 a2 a3 e1 e2 rr rv
    induction r generalizing i with
    | nil=>simp at hv
    | cons p q ih=>
     cases i with
     | zero=>simp at hv; subst hv; exact ⟨_,rfl,p⟩
     | succ i=>simpa using ih (i:=i) (by simpa using hv)
   exact ⟨v :: ws,u :: ys,by rw [List.map_cons,hu,a1]; rfl, .cons ru a2, .cons rv a3,by rw [List.length_cons,List.length_cons,a4]⟩
  ·cases h
theorem Qm {ws:List V} {ys:List Value} (r:Vals ws ys):∀ (FS:List Str) (f:Str),RelO ((FS.zip ws).lookup f) ((FS.zip ys).lookup f):=by
 induction r with
 | nil=>intro FS f; rw [List.zip_nil_right,List.zip_nil_right]; trivial
 | cons p q ih=>
  intro FS f
  cases FS with
  | nil=>trivial
  | cons g FS=>
   rw [List.zip_cons_cons,List.zip_cons_cons,List.lookup_cons,List.lookup_cons]
   cases h:(f == g) with
   | true=>exact p
   | false=>exact ih FS f
theorem LR {K:Kw} {G:Hp} {σ:L2.St}:∀ {rs:List Rv} {vs:List V} {ds:List D},dM K G σ rs vs->Vz rs=some ds->au K G vs ds
 | _,_,_, .nil,h=>by cases h; exact .nil
 | .im d :: rs,_,_, .cons a b,h=>by
  obtain ⟨m,hm,rfl⟩:=Option.map_eq_some_iff.mp h
  exact .cons a (LR b hm)
 | .sl i :: rs,_,_, .cons a b,h=>nomatch h
section
variable {X:Cx} {W:WX} {e a:Expr} {A:AE} {pins:List (Addr×Obj)} {s:Shared} {σ:L2.St} {G H:Hp} {pin:L2.St} {own:List (List Addr)} {ss ss':List SD} {pos:Pos}
theorem abo {C:Addr} {c:Str} {FS:List Str} {ws:List V} {ys:List Value} {es:List D} {h':Heap} {tk:Nat} {x d:Addr} (hm:X.mg c=some (.ref C)) (ga:yI X.K C) (I:Inv X pins σ H s) (F:Fm X.kw pin G own σ H ss) (rw_:Vals ws ys) (re:au X.kw G ws es) (hl:ws.length=FS.length)
  (k1:∀ b o,s.heap.get? b=some o->h'.get? b=some o) (be:s.heap.objs.size≤x) (ob:∃ (oe:Obj) (fv:Array Value),h'.get? x=some oe/\oe.cls = .ref C/\oe.dict=some d/\oe.data = .fields fv/\fv[1]? = some .none) (bd:s.heap.objs.size≤d) (ne:d ≠ x) (ns:∃ mA,h'.Ns1 d mA/\∀ f,mA f=(FS.zip ys).lookup f) :
  EPost X pins σ pin G own H (.val (.im (.ob c FS es)) ss) (.ref x) { s with heap:=h',toks:=tk }:=by
 obtain ⟨mA,n1,n2⟩:=ns
 obtain ⟨oe,fv,o1,o2,o3,o4,_⟩:=ob
 have nd:H d=none:=I.hok.fresh bd
 have nx:upd H d (.xd (FS.zip ws)) x=none:=by rw [upd_ne (Ne.symm ne)]; exact I.hok.fresh be
 have I2:=I.laid (a:=d) (o:=.xd (FS.zip ws)) (t':=tk) k1 bd ⟨mA,n1,fun f=>by rw [n2 f]; exact Qm rw_ FS f⟩
 have I3:=Inv.track (o:=Ft C (some d) x) I2 (I.fpOk be nx) (Nat.le_trans I.sz be) ⟨⟨oe,fv,o1,o2,o3,o4⟩,⟨oe,o1⟩,fun h1 h2 ⟨oe,fv,p1,p2,p3,p4⟩ st=>⟨oe,fv,st _ p1,p2,p3,p4⟩⟩
 have al1:aU G H (upd G d (.xd (FS.zip ws))) (upd H d (.xd (FS.zip ws))):=aU.new F.ex nd
 have al:=al1.trans (aU.new (o:=Ft C (some d) x) al1.gh nx)
 have e1:(FS.zip ws).map (·.1)=FS:=List.map_fst_zip (by rw [hl]; exact Nat.le_refl _)
 have e2:(FS.zip ws).map (·.2)=ws:=List.map_snd_zip (by rw [hl]; exact Nat.le_refl _)
 refine ⟨.im (.ob c FS es),ss, .ref x,_,_,own,rfl,I3,rfl,al.step own.flatten,F.alloc al,?_⟩
 have q:Rep X.kw (upd (upd G d (.xd (FS.zip ws))) x (Ft C (some d) x)) (.ref x) (.ob c ((FS.zip ws).map (·.1)) es):=
  .xo hm ga (.inl upd_same) (.inr ⟨d,rfl, .inl (by rw [upd_ne ne,upd_same])⟩) (by rw [e2]; exact re.mono al.g)
 rw [e1] at q
 exact q
theorem U8 {c:Str} {C:Addr} {FS:List Str} {gb:List Value->Args} {π:List Nat} {k:Nat} {us:List Value} {vs:List V} {rs:List Rv} {ss1:List SD} {G1 H1:Hp} {own1:List (List Addr)} {s1:Shared} (hx:CK X C FS gb π) (hm:X.mg c=some (.ref C)) (ga:yI X.K C) (hr:Room (k+1) X.A)
  (I1:Inv X pins σ H1 s1) (r:Vals vs us) (F1:Fm X.kw pin G1 own1 σ H1 ss1) (kk:dM X.kw G1 σ rs vs) (w:bA X.kw X.mg W pin G1 own1 σ H1 (Out.ofD (Nf c FS π rs) ss1)) :
  wpAny (model X.prog X.w) X.A (call (.ref C) (gb us).pos (gb us).kw) (EPost X pins σ pin G1 own1 H1 (Out.ofD (Nf c FS π rs) ss1)) X.xe s1:=by
 obtain ⟨d,hd⟩:=vf w
 rw [hd]
 unfold Nf at hd
 obtain ⟨ds,q1,q2⟩:=dY hd
 split at q2
 ·rename_i cl
  obtain ⟨l1,l2⟩:=cl
  obtain ⟨es,q3,rfl⟩:=Option.map_eq_some_iff.mp q2
  have rr:=LR kk q1
  obtain ⟨ws,ys,a1,a2,a3,a4⟩:=Ql rr r q3
  have dp:=hr.dp
  refine wpAny_call (hx us ys a1 (by rw [<- l1,<- rr.length,r.length]) I1.kIn I1.nolimit (by omega) fun h' tk e d k1 be ob bd ne ns=>?_)
  exact abo hm ga I1 F1 a2 a3 (by rw [a4,l2]) k1 be ob bd ne ns
 ·cases q2
theorem qY {c:Str} {C:Addr} {FS:List Str} {π:List Nat} {k:Nat} {p:Pos} {es:List Expr} {As:List AE} (hx:CK X C FS yN π) (hm:X.mg c=some (.ref C)) (kC:PySem.W.keepIn X.K (.ref C)=true) (ga:yI X.K C) (hr:Room (k+1) X.A) (hg:Gl X c)
  (ha:DA X W (e :: es) As) (hdb:(c == ("__debug__" : Str))=false:=by decide) (he:starEach (e :: es) X.env=(false,eval e X.env) :: starEach es X.env:=by rfl) (hpl:(backTo pos (starEach es X.env)).any (·.1)=false:=by rfl):DE X W (.Call (.Name c p) (e :: es) [] pos) (jW c FS π As):=
 DE.mk fun pins s σ H pin G own ss I F0 w=>by
  refine wpAny_Call_Name_kw (ld_glob I hg hm ?_ hdb)
  have w0:bA X.kw X.mg W pin G own σ H (cM As ss).out:=by
   unfold jW at w
   cases q:cM As ss with
   | bad=>rw [q] at w; exact w
   | val rs s=>trivial
   | exc c fs s=>rw [q] at w; exact w
  refine PySem.W.callWith_K (h₀:=X.base) I.ok.mod.kin kC (thn (ha.go pos I F0 w0) fun us s1 ⟨vs,H1,rs,ss1,G1,own1,I1,r,ev,st,F1,kk⟩=>⟨I1.kIn,?_⟩) he hpl
  have eq:jW c FS π As ss=Out.ofD (Nf c FS π rs) ss1:=by unfold jW; rw [ev]; rfl
  rw [eq] at w ⊢
  exact thn (U8 (gb:=yN) hx hm ga hr I1 r F1 kk (w.step st)) fun u' s' h=>h.step st
theorem CN {c:Str} {C:Addr} {FS ks:List Str} {π:List Nat} {k:Nat} {p:Pos} {kws:List Keyword} {As:List AE} (hx:CK X C FS (Um ks) π) (hm:X.mg c=some (.ref C)) (kC:PySem.W.keepIn X.K (.ref C)=true) (ga:yI X.K C) (hr:Room (k+1) X.A) (hg:Gl X c)
  (ha:DK X W kws As) (hall:(backToKw pos (keywordEach kws X.env)).all (·.1.isSome)=true:=by rfl) (hks:(backToKw pos (keywordEach kws X.env)).filterMap (·.1)=ks:=by rfl)
  (hdb:(c == ("__debug__" : Str))=false:=by decide) (hpl:((backTo pos (starEach [] X.env)).any (·.1) || (backToKw pos (keywordEach kws X.env)).any (·.1.isNone))=false:=by rfl):DE X W (.Call (.Name c p) [] kws pos) (jW c FS π As):=
 DE.mk fun pins s σ H pin G own ss I F0 w=>by
  refine wpAny_Call_Name_kw (ld_glob I hg hm ?_ hdb)
  have w0:bA X.kw X.mg W pin G own σ H (cM As ss).out:=by
   unfold jW at w
   cases q:cM As ss with
   | bad=>rw [q] at w; exact w
   | val rs s=>trivial
   | exc c fs s=>rw [q] at w; exact w
  refine PySem.W.callWith_KW0 (h₀:=X.base) I.ok.mod.kin kC hall (thn (ha.go pos I F0 w0) fun us s1 ⟨vs,H1,rs,ss1,G1,own1,I1,r,ev,st,F1,kk⟩=>⟨I1.kIn,?_⟩) hpl
  rw [hks]
  have eq:jW c FS π As ss=Out.ofD (Nf c FS π rs) ss1:=by unfold jW; rw [ev]; rfl
  rw [eq] at w ⊢
  exact thn (U8 (gb:=Um ks) hx hm ga hr I1 r F1 kk (w.step st)) fun u' s' h=>h.step st
theorem aco {c:Str} {C:Addr} {bmB:List Value} {B newId initId:String} {p:Pos} (Fc:ExcBaseFacts B newId initId bmB) (q:PySem.W.excIn X.K C bmB newId=true) (hm:X.mg c=some (.ref C)) (kC:PySem.W.keepIn X.K (.ref C)=true) (ga:yI X.K C) (hg:Gl X c) (hdb:(c == ("__debug__" : Str))=false:=by decide) :
  DE X W (.Call (.Name c p) [] [] pos) (aC (.ob c [] [])):=
 DE.mk fun pins s σ H pin G own ss I F0 w=>by
  refine wpAny_Call_Name_kw (ld_glob I hg hm ?_ hdb)
  refine PySem.W.callWith_K0 I.kIn kC ?_
  show wpAny _ _ (call (.ref C) []) _ _ _
  obtain ⟨bm,N,nm,qn,bs,hdct,sn,sub,ab,col,dd,k0,k1,k2,k3,k5,mN,hC,hN,hni,T⟩:=L2.exc_obj I.kIn q
  refine wpAny_call_exc_subT Fc T hC hN hni (fun h' x mk=>?_) (Nat.zero_le _)
  have nx:H x=none:=I.hok.gone mk.new
  obtain ⟨t,ht,_,_⟩:=mk.there
  have I2:=I.laidN (o:=Ft C none x) (t':=s.toks) mk.keeps mk.new nx ⟨⟨_,_,ht,rfl,rfl,rfl⟩,⟨_,ht⟩,fun h1 h2 ⟨oe,fv,p1,p2,p3,p4⟩ st=>⟨oe,fv,st _ p1,p2,p3,p4⟩⟩
  have al:=aU.new (o:=Ft C none x) F0.ex nx
  refine ⟨.im (.ob c [] []),ss, .ref x,_,_,own,rfl,I2,rfl,al.step own.flatten,F0.alloc al,?_⟩
  exact Rep.xo (xs:=[]) hm ga (.inl upd_same) (.inl ⟨rfl,rfl⟩) .nil
theorem Rep.exc {v:V} {c:Str} {FS:List Str} {l:List D} {C:Addr} {u:Value} (r:Rep X.kw G v (.ob c FS l)) (hm:X.mg c=some (.ref C)) (I:Inv X pins σ H s) (e:Ex G H) (ru:RelV v u) :
  ∃ (p:Addr) (ox:Obj) (od:Option Obj) (xs:List (Str×V)),u = .ref p/\PySem.W.InstAt s.heap p ox C od/\FS=xs.map (·.1)/\au X.kw G (xs.map (·.2)) l/\∀ f x,xs.lookup f=some x->∃ o w,od=some o/\PySem.W.lookIn f o=some (some w)/\RelV x w:=by
 generalize hd:D.ob c FS l=d at r
 cases r with
 | ob a b rr=>
  cases hd
  have a:X.mg c=some (.ref _):=a
  rw [hm] at a; cases a
  obtain ⟨mA,O,rel,_⟩:=ins_get I.hok (e _ _ b)
  obtain ⟨od,J,l⟩:=O.look
  refine ⟨_,_,some od,_,ru,J,rfl,rr,fun f x hx=>?_⟩
  obtain ⟨w,hw,rw_⟩:=RelO.some_of (v:=x) (o:=mA f) (by rw [<- hx]; exact rel f)
  exact ⟨od,w,rfl,by rw [l,hw],rw_⟩
 | xo a g b dd rr=>
  cases hd
  have a:X.mg c=some (.ref _):=a
  rw [hm] at a; cases a
  obtain ⟨⟨oe,fv,o1,o2,o3,o4⟩,_,_⟩:=(e.rd b).ok I.hok
  obtain ⟨oc,odd,dt,sl⟩:=oe
  simp only at o2 o3 o4
  subst o2 o3 o4
  rcases dd with ⟨rfl,rfl⟩ | ⟨dx,rfl,hdx⟩
  ·exact ⟨_,_,none,[],ru,⟨o1,rfl,rfl,trivial⟩,rfl,rr,fun f x hx=>by cases hx⟩
  ·obtain ⟨mA,ns,rel⟩:=(e.rd hdx).ok I.hok
   obtain ⟨od,ho,l⟩:=lookIn_ns ns
   refine ⟨_,_,some od,_,ru,⟨o1,rfl,rfl,ho⟩,rfl,rr,fun f x hx=>?_⟩
   obtain ⟨w,hw,rw_⟩:=RelO.some_of (v:=x) (o:=mA f) (by rw [<- hx]; exact rel f)
   exact ⟨od,w,rfl,by rw [l,hw],rw_⟩
 | _=>cases hd
def Og (f:Str):List Str->List D->Option D
 | g :: gs,d :: ds=>if g=f then some d else Og f gs ds
 | _,_=>none
def qI (CS:List Str) (f:Str):D->Option D
 | .ob c fs l=>if c∈CS then Og f fs l else none
 | _=>none
def xaK (CS:List Str) (f:Str) (r:Rv) (s:List SD):Out:=match r with
 | .im d=>Out.ofD (qI CS f d) s
 | .sl _ => .bad
def IV (CS:List Str) (f:Str) (A:AE):AE:=fun ss=>(A ss).bind (xaK CS f)
theorem Qn {K:Kw} {f:Str}:∀ {xs:List (Str×V)} {l:List D} {d:D},au K G (xs.map (·.2)) l->Og f (xs.map (·.1)) l=some d->∃ x,xs.lookup f=some x/\Rep K G x d
 | [],_,_, .nil,h=>nomatch h
 | (g,v) :: xs,_,d, .cons a b,h=>by
  rw [List.map_cons] at h
  unfold Og at h
  rw [List.lookup_cons]
  by_cases c:g=f
  ·subst c
   rw [if_pos rfl] at h
   cases h
   rw [beq_self_eq_true]
   exact ⟨v,rfl,a⟩
  ·rw [if_neg c] at h
   rw [show (f == g)=false by simpa using Ne.symm c]
   exact Qn b h
theorem Ke {CS:List Str} {f:Str} (hc:∀ c∈CS,∃ C,X.mg c=some (.ref C)/\Gy X.K C/\PySem.W.findIn X.K (.ref C) f=some none) (ha:DE X W e A) (hb:attributeBase e f X.env (eval e X.env)=eval e X.env:=by rfl):DE X W (.Attribute e f pos) (IV CS f A):=
 DE.mk fun pins s σ H pin G own ss I F0 w=>by
  refine attr_of hb (thn (ha.go I F0 w.bind1) fun u s1 ⟨r,ss1,v,H1,G1,own1,e1,I1,rv,st,F1,k1⟩=>?_)
  have eq:IV CS f A ss=xaK CS f r ss1:=by unfold IV; rw [e1]; rfl
  rw [eq] at w ⊢
  unfold xaK at w ⊢
  cases r with
  | sl i=>exact absurd w id
  | im d=>
   simp only at w ⊢
   obtain ⟨d',hd⟩:=vf w
   rw [hd]
   unfold qI at hd
   split at hd
   ·rename_i c fs l
    split at hd
    ·rename_i mem
     obtain ⟨C,m1,T,no⟩:=hc c mem
     have k1:Rep X.kw G1 v (.ob c fs l):=k1
     obtain ⟨p,ox,od,xs,rfl,J,rfl,rr,look⟩:=k1.exc m1 I1 F1.ex rv
     obtain ⟨x,hx,rx⟩:=Qn rr hd
     obtain ⟨o,w1,rfl,hl,rw1⟩:=look f x hx
     refine HandSPX.exc_get I1.kIn J T.ga T.gg T.exC (PySem.W.findObj_own T.hdC no rfl hl) (handed_of rw1) ?_
     exact ⟨.im d',ss1,x,H1,G1,own1,rfl,I1.tok _,rw1,st,F1,rx⟩
    ·cases hd
   ·cases hd
def ZX (tab:List (Str×Bool)):D->Option D
 | .ob c _ _=>(tab.lookup c).map D.bl
 | _=>none
def xiK (tab:List (Str×Bool)) (r:Rv) (s:List SD):Out:=match r with
 | .im d=>Out.ofD (ZX tab d) s
 | .sl _ => .bad
def nZ (tab:List (Str×Bool)) (A:AE):AE:=fun ss=>(A ss).bind (xiK tab)
theorem Ay {c:Str} {b:Bool}:∀ {tab:List (Str×Bool)},tab.lookup c=some b->(c,b)∈tab
 | [],h=>nomatch h
 | (g,x) :: r,h=>by
  rw [List.lookup_cons] at h
  cases q:(c == g) with
  | true=>rw [q] at h; cases h; rw [beq_iff_eq.mp q]; exact List.mem_cons_self
  | false=>rw [q] at h; exact List.mem_cons_of_mem _ (Ay h)
theorem qZ {x:Str} {p:Pos} {tab:List (Str×Bool)} {T:Value} {tv:V} {jF:Expr} (hc:∀ q∈tab,∃ C,X.mg q.1=some (.ref C)/\Gy X.K C/\PySem.W.kitOne X.K (.ref C) T=some q.2) (hx:x = "isinstance":=by rfl) (hg:Gl X x) (hm:X.mg x=none) (ha:DE X W a A) (ht:PE X jF (tC tv)) (hT:∀ u,RelV tv u->u=T)
  (he:starEach (a :: [jF]) X.env=(false,eval a X.env) :: starEach [jF] X.env:=by rfl) (he2:starEach [jF] X.env=[(false,eval jF X.env)]:=by rfl) (hpl:(backTo pos (starEach [jF] X.env)).any (·.1)=false:=by rfl):DE X W (.Call (.Name x p) [a,jF] [] pos) (nZ tab A):=
 DE.mk fun pins s σ H pin G own ss I F w=>by
  subst hx
  refine wpAny_Call_Name_kw (ld_blt I hg hm (show bootBuiltins (Str.ofString "isinstance")=some (.builtin "isinstance") from by decide +kernel) ?_ (by decide) (by decide))
  refine PyProof.Rows.callWith_builtin1 (Q:=EPost X pins σ pin G own H (nZ tab A ss)) ?_ he hpl
  rw [he]
  show wpAny _ _ (spliced ((false,eval a X.env) :: backTo pos (starEach [jF] X.env))) _ _ s
  refine Calls.spliced_cons (thn (ha.go I F w.bind1) fun u s1 ⟨r1,ss1,v,H1,G1,own1,e1,I1,rx,st1,F1,k1⟩=>?_)
  have eq:nZ tab A ss=xiK tab r1 ss1:=by unfold nZ; rw [e1]; rfl
  rw [eq] at w ⊢
  unfold xiK at w ⊢
  rw [he2]
  show wpAny _ _ (spliced ((false,eval jF X.env) :: [])) _ _ s1
  refine Calls.spliced_cons (thn (ht.run pins s1 σ H1 (fun v' H'=>v'=tv/\H'=H1) I1 ⟨rfl,rfl⟩) fun u2 s2 ⟨v2,H2,I2,r2,z1,z2⟩=>?_)
  subst z1; subst z2
  have z3:=hT u2 r2
  subst z3
  refine Calls.spliced_nil ?_
  cases r1 with
  | sl i=>exact absurd w id
  | im d=>
   simp only at w ⊢
   obtain ⟨d',hd⟩:=vf w
   rw [hd]
   unfold ZX at hd
   split at hd
   ·rename_i c fs l
    obtain ⟨b,hb,rfl⟩:=Option.map_eq_some_iff.mp hd
    obtain ⟨C,m1,Tc,kit⟩:=hc _ (Ay hb)
    have k1:Rep X.kw G1 v (.ob c fs l):=k1
    obtain ⟨q,ox,od,xs,rfl,J,_⟩:=k1.exc m1 I2 F1.ex rx
    have hcl:(PySem.W.clsIn X.K C).isSome=true:=by
     have:=Tc.hdC
     unfold PySem.W.hasDictIn at this
     cases z:PySem.W.clsIn X.K C with
     | none=>rw [z] at this; cases this
     | some cd=>rfl
    refine PySem.W.kia_one (PySem.W.kitx_exc (x:=q) (ox:=ox) (od:=od) hcl Tc.ga Tc.gg Tc.exC Tc.ha Tc.hn Tc.ht Tc.hm) I2.kIn J kit (fun z=>nomatch z) fun tk=>?_
    exact ⟨.im (.bl b),ss1, .bl b,H2,G1,own1,rfl,I2.tok tk,rfl,st1,F1, .bl b⟩
   ·cases hd
end
end DL
namespace DL
open PySem PySem.Spec PyProof.Rows L2
section
variable {X:Cx} {cn qn:Str} {C fI:Addr}
theorem one_of {us vs:List Value} (h:([0].map fun i=>us[i]?)=vs.map some) (hl:us.length=1):∃ u,us=[u]/\vs=[u]:=by
 match us,hl with
 | [u],_=>
  match vs,h with
  | [v],h=>
   have h:[some u]=[some v]:=h
   cases h
   exact ⟨u,rfl,rfl⟩
theorem acr {us vs:List Value} (h:([0,1].map fun i=>us[i]?)=vs.map some) (hl:us.length=2):∃ u v,us=[u,v]/\vs=[u,v]:=by
 match us,hl with
 | [u,v],_=>
  match vs,h with
  | [a,b],h=>
   have h:[some u,some v]=[some a,some b]:=h
   cases h
   exact ⟨u,v,rfl,rfl⟩
theorem acs {us vs:List Value} (h:([1,0].map fun i=>us[i]?)=vs.map some) (hl:us.length=2):∃ u v,us=[v,u]/\vs=[u,v]:=by
 match us,hl with
 | [v,u],_=>
  match vs,h with
  | [a,b],h=>
   have h:[some u,some v]=[some a,some b]:=h
   cases h
   exact ⟨u,v,rfl,rfl⟩
theorem CP {f:Str} {v:Value} (g:Str):(if g=f then some v else none)=([f].zip [v]).lookup g:=by
 show _=List.lookup g [(f,v)]
 rw [List.lookup_cons]
 by_cases h:g=f
 ·subst h; rw [if_pos rfl,beq_self_eq_true]
 ·rw [if_neg h,show (g == f)=false by simpa using h]; rfl
theorem Xk {f1 f2:Str} (ne:f1 ≠ f2) {v w:Value} (g:Str):(if g=f2 then some w else (fun y:Str=>if y=f1 then some v else none) g)=([f1,f2].zip [v,w]).lookup g:=by
 show _=List.lookup g [(f1,v),(f2,w)]
 rw [List.lookup_cons,List.lookup_cons]
 by_cases h:g=f2
 ·subst h
  rw [if_pos rfl,show (g == f1)=false by simpa using Ne.symm ne,beq_self_eq_true]
 ·rw [if_neg h,show (g == f2)=false by simpa using h]
  by_cases k:g=f1
  ·subst k; simp
  ·simp only [if_neg k]; rw [show (g == f1)=false by simpa using k]; rfl
theorem Im (T:PySem.jK.bU X.K X.mg cn qn C fI):CK X C ["at"] yN [0]:=fun us vs h hl kin lim room hq=>by
 obtain ⟨u,rfl,rfl⟩:=one_of h hl
 exact PySem.jK.rN T (rest:=[u]) (fun x qn doc pm an cdv ct p1 p2 q1 q2 q3 q4=>by first | rfl | with_unfolding_all rfl) (by show 1≤1000; decide) kin lim room fun h' tk e d M=>hq h' tk e d M.keep M.new M.obj M.mW M.dne ⟨_,M.ns,CP⟩
theorem Qo (T:PySem.jK.bU X.K X.mg cn qn C fI):CK X C ["at"] (Um ["at"]) [0]:=fun us vs h hl kin lim room hq=>by
 obtain ⟨u,rfl,rfl⟩:=one_of h hl
 exact PySem.jK.oM T (kws:=[("at",u)]) (fun x qn doc pm an cdv ct p1 p2 q1 q2 q3 q4=>by first | rfl | with_unfolding_all rfl) kin lim room fun h' tk e d M=>hq h' tk e d M.keep M.new M.obj M.mW M.dne ⟨_,M.ns,CP⟩
theorem Ma (T:PySem.pB.bU X.K X.mg cn qn C fI):CK X C ["text"] yN [0]:=fun us vs h hl kin lim room hq=>by
 obtain ⟨u,rfl,rfl⟩:=one_of h hl
 exact PySem.pB.rN T (rest:=[u]) (fun x qn doc pm an cdv ct p1 p2 q1 q2 q3 q4=>by first | rfl | with_unfolding_all rfl) (by show 1≤1000; decide) kin lim room fun h' tk e d M=>hq h' tk e d M.keep M.new M.obj M.mW M.dne ⟨_,M.ns,CP⟩
theorem YZ (T:PySem.pB.bU X.K X.mg cn qn C fI):CK X C ["text"] (Um ["text"]) [0]:=fun us vs h hl kin lim room hq=>by
 obtain ⟨u,rfl,rfl⟩:=one_of h hl
 exact PySem.pB.oM T (kws:=[("text",u)]) (fun x qn doc pm an cdv ct p1 p2 q1 q2 q3 q4=>by first | rfl | with_unfolding_all rfl) kin lim room fun h' tk e d M=>hq h' tk e d M.keep M.new M.obj M.mW M.dne ⟨_,M.ns,CP⟩
theorem U9 (T:PySem.pC.bU X.K X.mg cn qn C fI):CK X C ["word"] yN [0]:=fun us vs h hl kin lim room hq=>by
 obtain ⟨u,rfl,rfl⟩:=one_of h hl
 exact PySem.pC.rN T (rest:=[u]) (fun x qn doc pm an cdv ct p1 p2 q1 q2 q3 q4=>by first | rfl | with_unfolding_all rfl) (by show 1≤1000; decide) kin lim room fun h' tk e d M=>hq h' tk e d M.keep M.new M.obj M.mW M.dne ⟨_,M.ns,CP⟩
theorem Y0 (T:PySem.pC.bU X.K X.mg cn qn C fI):CK X C ["word"] (Um ["word"]) [0]:=fun us vs h hl kin lim room hq=>by
 obtain ⟨u,rfl,rfl⟩:=one_of h hl
 exact PySem.pC.oM T (kws:=[("word",u)]) (fun x qn doc pm an cdv ct p1 p2 q1 q2 q3 q4=>by first | rfl | with_unfolding_all rfl) kin lim room fun h' tk e d M=>hq h' tk e d M.keep M.new M.obj M.mW M.dne ⟨_,M.ns,CP⟩
theorem Qp (T:PySem.fV.bU X.K X.mg cn qn C fI):CK X C ["word","text"] yN [0,1]:=fun us vs h hl kin lim room hq=>by
 obtain ⟨u,v,rfl,rfl⟩:=acr h hl
 exact PySem.fV.rN T (rest:=[u,v]) (fun x qn doc pm an cdv ct p1 p2 p3 q1 q2 q3 q4 q5 q6 q7 q8=>by first | rfl | with_unfolding_all rfl) (by show 2≤1000; decide) kin lim room fun h' tk e d M=>hq h' tk e d M.keep M.new M.obj M.mW M.dne ⟨_,M.ns,Xk (by decide)⟩
theorem Xl (T:PySem.fV.bU X.K X.mg cn qn C fI):CK X C ["word","text"] (Um ["text","word"]) [1,0]:=fun us vs h hl kin lim room hq=>by
 obtain ⟨u,v,rfl,rfl⟩:=acs h hl
 exact PySem.fV.oM T (kws:=[("text",v),("word",u)]) (fun x qn doc pm an cdv ct p1 p2 p3 q1 q2 q3 q4 q5 q6 q7 q8=>by first | rfl | with_unfolding_all rfl) kin lim room fun h' tk e d M=>hq h' tk e d M.keep M.new M.obj M.mW M.dne ⟨_,M.ns,Xk (by decide)⟩
end
def Z0 (c:Str) (FS:List Str) (π:List Nat) (rs:List Rv):Option (List (Str×D)):=(Vz rs).bind fun ds=>if ds.length=FS.length/\π.length=FS.length then (DP π ds).map fun es=>FS.zip es else none
def xH.toS (o:xH) (k:List Rv->List SD->cA):cA:=match o with
 | .bad => .bad
 | .val r s=>k r s
 | .exc c fs s => .exc c fs s
def Io (c:Str) (FS:List Str) (π:List Nat) (As:List AE):AS:=fun _ ss=>xH.toS (cM As ss) fun rs s=>match Z0 c FS π rs with
 | some fs => .exc c fs s
 | none => .bad
section
variable {X:Cx} {W:WX} {st:Stmt} {sts:List Stmt} {S T:AS} {e a b c:Expr} {A B:AE} {pins:List (Addr×Obj)} {s:Shared} {σ:L2.St} {G H:Hp} {pin:L2.St} {own:List (List Addr)} {ss ss':List SD} {pos:Pos} {cn qn:Str} {C fI:Addr}
def aeE (C:Addr) (FS:List Str) (π:List Nat) (ta:TA):L2.St->Hp->XK->Prop:=fun σ H Q=>ta σ H fun vs H1=>vs.length=FS.length/\∃ ws:List V,(π.map fun i=>vs[i]?)=ws.map some/\ws.length=FS.length/\∀ d,H1 d=none->Q (.ref C) (some d) (upd H1 d (.xd (FS.zip ws)))
theorem Nh {vs:List V} {us:List Value} (r:Vals vs us):∀ {π:List Nat} {ws:List V},(π.map fun i=>vs[i]?)=ws.map some->∃ ys,(π.map fun i=>us[i]?)=ys.map some/\Vals ws ys
 | [],ws,h=>by
  cases ws with
  | nil=>exact ⟨[],rfl, .nil⟩
  | cons=>cases h
 | i :: π,ws,h=>by
  cases ws with
  | nil=>cases h
  | cons w ws=>
   rw [List.map_cons,List.map_cons] at h
   obtain ⟨h1,h2⟩:=List.cons.inj h
   obtain ⟨ys,a1,a2⟩:=Nh r h2
   obtain ⟨u,hu,ru⟩:∃ u,us[i]? = some u/\RelV w u:=by
    clear h h2 a1 a2
    induction r generalizing i with
    | nil=>simp at h1
    | cons p q ih=>
     cases i with
     | zero=>simp at h1; subst h1; exact ⟨_,rfl,p⟩
     | succ i=>simpa using ih (i:=i) (by simpa using h1)
   exact ⟨u :: ys,by rw [List.map_cons,List.map_cons,hu,a1], .cons ru a2⟩
theorem adf {es:List Expr} {FS:List Str} {π:List Nat} {ta:TA} {p:Pos} {k:Nat} (hx:CK X C FS yN π) (hm:X.mg cn=some (.ref C)) (kC:PySem.W.keepIn X.K (.ref C)=true) (exC:PySem.W.subIn X.K (.ref C) (.type "BaseException")=some true) (tyC:PySem.W.typeIn X.K (.ref C)=some (.type "type")) (hr:Room (k+1) X.A) (ha:PA X (a :: es) ta) (hg:Gl X cn) (hdb:(cn == ("__debug__" : Str))=false)
  (he:starEach (a :: es) X.env=(false,eval a X.env) :: starEach es X.env:=by rfl) (hpl:(backTo pos (starEach es X.env)).any (·.1)=false:=by rfl) :
  PMk X (.Call (.Name cn p) (a :: es) [] pos) (aeE C FS π ta):=by
 intro pins s σ H Q I h
 refine wpAny_Call_Name_kw (ld_glob I hg hm ?_ hdb)
 refine PySem.W.callWith_K (h₀:=X.base) I.ok.mod.kin kC (thn (ha.run pos pins s σ H _ I h) fun us s1 hh=>?_) he hpl
 obtain ⟨vs,H1,I1,r1,l1,ws,e1,l2,q1⟩:=hh
 refine ⟨I1.kIn,?_⟩
 obtain ⟨ys,e2,r2⟩:=Nh r1 e1
 have hlim:=I1.nolimit
 have dp:=hr.dp
 obtain ⟨hp,g,dr,tk,os⟩:=s1
 show wpAny _ _ (call (.ref C) us) _ _ _
 refine wpAny_call (hx us ys e2 (by rw [<- r1.length]; exact l1) I1.kIn hlim (by omega) fun h' tk' x d keep new ob mW dne ns=>?_)
 show MkP X pins σ Q (.ref x) ⟨h',g,dr,tk',os⟩
 obtain ⟨oe,fv,hoe,hc,hd,hdat,h1⟩:=ob
 obtain ⟨mA,n1,n2⟩:=ns
 obtain ⟨G',g1,g2⟩:=restrict h' fun b=>decide (b ≠ x)
 have gk:∀ b,b ≠ x->G'.get? b=h'.get? b:=fun b hb=>g1 b (decide_eq_true hb)
 have ge:G'.get? x=none:=g2 x (by simp)
 have old:∀ b o,hp.get? b=some o->G'.get? b=some o:=fun b o q=>(gk b (Nat.ne_of_lt (Nat.lt_of_lt_of_le (Heap.lt_size q) new))).trans (keep b o q)
 have obj:ObjOk X.prog X.w (upd H1 d (.xd (FS.zip ws))) G' d (.xd (FS.zip ws)):=⟨_,n1.at (fun o q=>(gk d dne).trans q),fun f=>by rw [n2 f]; exact Qm r2 FS f⟩
 have J:Inv X pins σ (upd H1 d (.xd (FS.zip ws))) ⟨G',g,dr,tk',os⟩:=I1.laid (t':=tk') old mW obj
 refine ⟨x,oe,fv,⟨G',g,dr,tk',os⟩,_, .ref C,some d,rfl,J,fun b o q=>?_,ge,hoe,⟨hc,hd⟩,hdat,h1,?_,rfl,I1.bare,raises_own exC tyC,q1 d (I1.hok.fresh mW)⟩
 ·by_cases hb:b=x
  ·have q':G'.get? b=some o:=q
   rw [hb,ge] at q'; cases q'
  ·exact (gk b hb).symm.trans q
 ·rw [upd_ne (Ne.symm dne)]
  exact I1.hok.fresh new
theorem Qq {K:Kw} {G:Hp} {vs:List V} {ds:List D} (rr:au K G vs ds):∀ {π:List Nat} {es:List D},DP π ds=some es->∃ ws:List V,(π.map fun i=>vs[i]?)=ws.map some/\au K G ws es/\ws.length=π.length
 | [],es,h=>by cases h; exact ⟨[],rfl, .nil,rfl⟩
 | i :: π,es,h=>by
  unfold DP at h
  split at h
  ·rename_i x xs e1 e2
   cases h
   obtain ⟨ws,a1,a3,a4⟩:=Qq rr e2
   obtain ⟨v,hv,rv⟩:=rr.get e1
   exact ⟨v :: ws,by rw [List.map_cons,hv,a1]; rfl, .cons rv a3,by rw [List.length_cons,List.length_cons,a4]⟩
  ·cases h
theorem Xm {es:List Expr} {FS:List Str} {π:List Nat} {As:List AE} {p pos2:Pos} {k:Nat} (hc:X.calm=true) (hx:CK X C FS yN π) (hm:X.mg cn=some (.ref C)) (kC:PySem.W.keepIn X.K (.ref C)=true) (exC:PySem.W.subIn X.K (.ref C) (.type "BaseException")=some true) (tyC:PySem.W.typeIn X.K (.ref C)=some (.type "type")) (hr:Room (k+1) X.A) (tk:Takes X W)
  (ha:DA X W (a :: es) As) (hg:Gl X cn) (hdb:(cn == ("__debug__" : Str))=false:=by decide) (he:starEach (a :: es) X.env=(false,eval a X.env) :: starEach es X.env:=by rfl) (hpl:(backTo pos (starEach es X.env)).any (·.1)=false:=by rfl) :
  DS X W (.Raise (some (.Call (.Name cn p) (a :: es) [] pos)) none pos2) (Io cn FS π As):=
 DS.of (ps_raise hc tk (adf hx hm kC exC tyC hr ha hg hdb he hpl)) fun n σ H pin G own ss D' F w k=>by
  unfold Io at w
  cases q:cM As ss with
  | bad=>rw [q] at w; exact absurd w id
  | exc c' fs s'=>
   rw [q] at w
   refine ⟨pin,G,own,ss,F,?_,fun rs ss1 vs G1 own1 H1 e1 st F1 kk=>?_⟩
   ·rw [q]; obtain ⟨C',h1,h2⟩:=w; exact ⟨C',h1,fun dd G' own' H' s F x=>h2 dd σ G' own' H' s F x⟩
   ·rw [q] at e1; cases e1
  | val rs s1=>
   rw [q] at w
   refine ⟨pin,G,own,ss,F,by rw [q]; trivial,fun rs' ss1 vs G1 own1 H1 e1 st F1 kk=>?_⟩
   rw [q] at e1; cases e1
   have w':d8 X.kw X.mg W pin G own H (match Z0 cn FS π rs with | some fs=>cA.exc cn fs s1 | none => .bad):=w
   cases qx:Z0 cn FS π rs with
   | none=>rw [qx] at w'; exact absurd w' id
   | some fs=>
    rw [qx] at w'
    obtain ⟨C',h1,h2⟩:=w'
    rw [hm] at h1; cases h1
    unfold Z0 at qx
    obtain ⟨ds,q1,q2⟩:=dY qx
    split at q2
    ·rename_i cl
     obtain ⟨l1,l2⟩:=cl
     obtain ⟨es',q3,rfl⟩:=Option.map_eq_some_iff.mp q2
     have rr:=LR kk q1
     obtain ⟨ws,a1,a2,a3⟩:=Qq rr q3
     refine ⟨by rw [rr.length,l1],ws,a1,by rw [a3,l2],fun d0 hd=>?_⟩
     have al:aU G1 H1 G1 (upd H1 d0 (.xd (FS.zip ws))):=aU.own F1.ex hd
     have e1:(FS.zip ws).map (·.2)=ws:=List.map_snd_zip (by rw [a3,l2]; exact Nat.le_refl _)
     have e2:(FS.zip es').map (·.2)=es':=List.map_snd_zip (by rw [<- a2.length,a3,l2]; exact Nat.le_refl _)
     have e3:(FS.zip ws).map (·.1)=FS:=List.map_fst_zip (by rw [a3,l2]; exact Nat.le_refl _)
     have e4:(FS.zip es').map (·.1)=FS:=List.map_fst_zip (by rw [<- a2.length,a3,l2]; exact Nat.le_refl _)
     exact h2 (some d0) σ G1 own1 _ (st.trans (al.step own1.flatten)) (F1.alloc al) (.inr ⟨d0,FS.zip ws,rfl,upd_same,by rw [e3,e4],by rw [e1,e2]; exact a2⟩)
    ·cases q2
end
def Kf (i:Nat) (tab:List (Str×Bool)) (S:AS):AS:=fun n ss=>match S n ss with
 | .exc c _ s=>if i < s.length then (match tab.lookup c with
  | some b => .rt (.bl b) s
  | none => .bad) else .bad
 | o=>o
def Y4 (K:PySem.W.Frag) (T:Value) (a:Addr) (cls:Value) (od:Option Addr) (i:Nat):TE:=fun σ H Q=>∃ (C:Addr) (b:Bool),σ[i]? = some (some (.ref a))/\cls = .ref C/\Gy K C/\PySem.W.kitOne K (.ref C) T=some b/\(∀ dd,od=some dd->∃ xs,H dd=some (.xd xs))/\Q (.bl b) H
section
variable {X:Cx} {W:WX} {sts:List Stmt} {S:AS} {i:Nat} {pos:Pos}
theorem acu {a:Addr} {oe:Obj} {cls T:Value} {tv:V} {od:Option Addr} {pn:List (Addr×Obj)} {n x:Str} {p p2:Pos} {jF:Expr} (hz:Zc cls od oe) (hf:∃ vs,oe.data = .fields vs) (hx:x = "isinstance":=by rfl) (hg:Gl (X.suite a ((a,oe) :: pn)) x) (hm:X.mg x=none)
  (hv:PE (X.suite a ((a,oe) :: pn)) (.Name n p2) (tVar i)) (ht:PE (X.suite a ((a,oe) :: pn)) jF (tC tv)) (hT:∀ u,RelV tv u->u=T)
  (he:starEach (.Name n p2 :: [jF]) X.env=(false,eval (.Name n p2) X.env) :: starEach [jF] X.env:=by rfl) (he2:starEach [jF] X.env=[(false,eval jF X.env)]:=by rfl) (hpl:(backTo pos (starEach [jF] X.env)).any (·.1)=false:=by rfl) :
  PE (X.suite a ((a,oe) :: pn)) (.Call (.Name x p) [.Name n p2,jF] [] pos) (Y4 X.K T a cls od i):=by
 refine ⟨fun pins s σ H Q I h=>?_⟩
 obtain ⟨C,b,h1,rfl,Tc,kit,hd,q⟩:=h
 subst hx
 refine wpAny_Call_Name_kw (ld_blt I hg hm (show bootBuiltins (Str.ofString "isinstance")=some (.builtin "isinstance") from by decide +kernel) ?_ (by decide) (by decide))
 refine PyProof.Rows.callWith_builtin1 (Q:=EP (X.suite a ((a,oe) :: pn)) pins σ Q) ?_ he hpl
 rw [he]
 show wpAny _ _ (spliced ((false,eval (.Name n p2) X.env) :: backTo pos (starEach [jF] X.env))) _ _ s
 refine Calls.spliced_cons (thn (hv.run pins s σ H (fun v H1=>v = .ref a/\H1=H) I ⟨.ref a,h1,rfl,rfl⟩) fun u s1 ⟨v,H1,I1,r1,z1,z2⟩=>?_)
 subst z1; subst z2
 obtain rfl:u=Value.ref a:=r1
 rw [he2]
 show wpAny _ _ (spliced ((false,eval jF X.env) :: [])) _ _ s1
 refine Calls.spliced_cons (thn (ht.run pins s1 σ H1 (fun v' H'=>v'=tv/\H'=H1) I1 ⟨rfl,rfl⟩) fun u2 s2 ⟨v2,H2,I2,r2,z1,z2⟩=>?_)
 subst z1; subst z2
 have z3:=hT u2 r2
 subst z3
 refine Calls.spliced_nil ?_
 obtain ⟨ho,_⟩:=I2.pin (a,oe) (List.mem_append_left _ List.mem_cons_self)
 obtain ⟨fv,hdat⟩:=hf
 have hcl:(PySem.W.clsIn X.K C).isSome=true:=by
  have:=Tc.hdC
  unfold PySem.W.hasDictIn at this
  cases z:PySem.W.clsIn X.K C with
  | none=>rw [z] at this; cases this
  | some cd=>rfl
 have J:∃ o',PySem.W.InstAt s2.heap a oe C o':=by
  obtain ⟨oc,odd,dt,sl⟩:=oe
  obtain ⟨z1,z2⟩:=hz
  simp only at z1 z2 hdat
  subst z1 z2 hdat
  cases odd with
  | none=>exact ⟨none,ho,rfl,rfl,trivial⟩
  | some dd=>
   obtain ⟨xs,hxs⟩:=hd dd rfl
   obtain ⟨mA,ns,_⟩:=I2.hok dd _ hxs
   obtain ⟨o',h',_⟩:=lookIn_ns ns
   exact ⟨some o',ho,rfl,rfl,h'⟩
 obtain ⟨o',J⟩:=J
 refine PySem.W.kia_one (PySem.W.kitx_exc (x:=a) (ox:=oe) (od:=o') hcl Tc.ga Tc.gg Tc.exC Tc.ha Tc.hn Tc.ht Tc.hm) I2.kIn J kit (fun z=>nomatch z) fun tk=>?_
 exact ⟨.bl b,H2,I2.tok tk,rfl,q⟩
theorem Y5 {n bn:Str} {np p' rp:Pos} {B:Addr} {T:Value} {tab:List (Str×Bool)} {e:Expr} (hc:∀ q∈tab,∃ C,X.mg q.1=some (.ref C)/\Gy X.K C/\PySem.W.kitOne X.K (.ref C) T=some q.2/\PySem.W.exmOne X.K (.ref C) (.ref B)=some true)
  (hs:X.stack=X.env :: X.outer) (hfr:X.env.frame=some X.env.locals) (hN:X.N.Nodup) (hi:X.N[i]? = some n) (hln:X.env.kindOf n=some .local) (hcn:Names X bn (.ref B)) (tk:Takes X W)
  (hb:∀ (W':WX) (pn:List (Addr×Obj)) (xe:Value->Shared->Prop),Takes (X.tr pn xe) W'->PassesOwn (model X.prog X.w) X.A X.env xe->yK (X.tr pn xe) W' sts S)
  (hsu:∀ (a:Addr) (oe:Obj) (cls:Value) (od:Option Addr) (pn:List (Addr×Obj)),Zc cls od oe->(∃ vs,oe.data = .fields vs)->PE (X.suite a ((a,oe) :: pn)) e (Y4 X.K T a cls od i)) :
  DS X W (.Try sts [.ExceptHandler (some (.Name bn np)) (some n) [.Return (some e) rp] p'] [] [] pos) (Kf i tab S):=
 PS.imp (ps_try_as (tb:=fun W'=>WD X.kw X.mg W' S) (ts:=fun a cls od=>tRet (Y4 X.K T a cls od i)) hs hfr hN hi hln hcn tk (fun W' pn xe t p=>hb W' pn xe t p) (fun a oe cls od pn hz hf=>pss_one (ps_ret (hsu a oe cls od pn hz hf)))) fun D' σ H ⟨n,pin,G,own,ss,F,w,k⟩=>by
  unfold Kf at w k
  refine ⟨n,pin,G,own,ss,F,?_,?_⟩
  ·cases q:S n ss with
   | bad=>rw [q] at w; exact absurd w id
   | exc c fs s1=>
    rw [q] at w k
    simp only at w k
    by_cases li:i < s1.length
    ·rw [if_pos li] at w k
     cases qt:tab.lookup c with
     | none=>rw [qt] at w; exact absurd w id
     | some b=>
      rw [qt] at k
      have k:mV X.kw pin G own H D' (.rt (.bl b) s1):=k
      obtain ⟨C,m1,Tc,kit,ex⟩:=hc _ (Ay qt)
      refine ⟨C,m1,fun dd σ' G' own' H' st F' x=>⟨true,ex,fun _ a ha=>?_,fun z=>Bool.noConfusion z⟩⟩
      have hl:i < σ'.length:=by rw [F'.sl.l1]; exact li
      refine ⟨C,b,List.getElem?_set_self hl,rfl,Tc,kit,fun d0 e0=>?_,k _ σ' G' own' H' st F' (.bl b)⟩
      rcases x with ⟨_,z⟩ | ⟨d1,xs,z,z1,_⟩
      ·rw [z] at e0; cases e0
      ·rw [z] at e0; cases e0; exact ⟨xs,z1⟩
    ·rw [if_neg li] at w; exact absurd w id
   | _=>trivial
  ·cases q:S n ss with
   | bad=>rw [q] at w; exact absurd w id
   | exc c fs s1=>trivial
   | _=>rw [q] at k; exact k
end
end DL
namespace DL
open PySem PySem.Spec PyProof.Rows L2
section
variable {K:PySem.W.Frag} {C B:Addr} {b:Bool}
theorem rO:PySem.W.kitOne K (.ref C) (.ref C)=some true:=if_pos (by simp)
theorem aV (h1:PySem.W.subIn K (.ref C) (.ref B)=some b) (h2:PySem.W.isClsIn K B=true) (h3:PySem.W.typeIn K (.ref B)=some (.type "type")) (h4:PySem.W.subIn K (.ref C) (.ref C)=some true):PySem.W.kitOne K (.ref C) (.ref B)=some b:=by
 unfold PySem.W.kitOne
 by_cases e:C=B
 ·subst e
  rw [h1] at h4; cases h4
  rw [if_pos (by simp)]
 ·rw [if_neg (fun z=>e (Value.ref.inj (beq_iff_eq.mp z)))]
  have g0:(PySem.W.clsIn K B).isSome=true:=h2
  have g2:((PySem.W.clsIn K B).isSome && PySem.W.typeIn K (.ref B) == some (.type "type"))=true:=by rw [g0,h3]; rfl
  unfold PySem.W.kitCls
  exact (if_pos g2).trans h1
theorem cQ {T:String} (h1:PySem.W.subIn K (.ref C) (.type T)=some b) (h2:PySem.W.kitMeta T=true):PySem.W.kitOne K (.ref C) (.type T)=some b:=by
 unfold PySem.W.kitOne
 rw [if_neg (fun z=>nomatch (beq_iff_eq.mp z:Value.ref C = .type T))]
 unfold PySem.W.kitCls
 exact (if_pos h2).trans h1
end
end DL
namespace TY
open PySem PySem.Spec PyProof.Rows L2 DL SW
@[irreducible] def FUEL:Nat:=1000000000
def yU (np N:Nat) (b:AS):FnD:=fun ss=>if ss.length=np then runB N b FUEL ss else .bad
theorem DQ {np N:Nat} {b:AS}:∀ ss,yU np N b ss ≠ .bad->ss.length=np:=fun ss h=>by
 unfold yU at h
 split at h
 ·assumption
 ·exact absurd rfl h
theorem DR {np N:Nat} {b:AS}:∀ ss,yU np N b ss ≠ .bad->∃ n,runB N b n ss=yU np N b ss:=fun ss h=>by
 unfold yU at h ⊢
 split at h
 ·rename_i c; rw [if_pos c]; exact ⟨FUEL,rfl⟩
 ·exact absurd rfl h
abbrev Fr (x:SD):Prop:=∀ sh d,x ≠ .ow true sh d
theorem yr:Fr .un:=fun _ _ h=>nomatch h
theorem Kg {d:D}:Fr (.im d):=fun _ _ h=>nomatch h
theorem bs {α β:Type} {o:Option α} {k:α->Option β} {r:β} (h:o.bind k=some r):∃ v,o=some v/\k v=some r:=by
 cases o with
 | none=>cases h
 | some v=>exact ⟨v,rfl,h⟩
inductive Nk {α β:Type} (R:α->β->Prop):List α->List β->Prop
 | nil:Nk R [] []
 | cons {a:α} {b:β} {l:List α} {m:List β}:R a b->Nk R l m->Nk R (a :: l) (b :: m)
theorem vC {β:Type} (e:β->D):∀ xs:List β,Nk (fun d x=>d=e x) (xs.map e) xs
 | [] => .nil
 | x :: xs => .cons rfl (vC e xs)
theorem Nk.length {α β:Type} {R:α->β->Prop}:∀ {l:List α} {m:List β},Nk R l m->l.length=m.length
 | _,_, .nil=>rfl
 | _,_, .cons _ h=>congrArg (· + 1) h.length
def PR (sE:List SD) (d:D) (a:List SD) (o:cA):Prop:=∃ s,(o = .rt d s\/(o = .nx s/\d = .non))/\fin sE s=some a
inductive Oc (ρ σ:Type) where
 | nx (s:σ) | bk (s:σ) | rt (r:ρ)
section
variable {ρ σ:Type}
def PB (sE:List SD) (er:ρ->D) (ea:ρ->List SD) (P:σ->List SD->Prop) (q:Oc ρ σ) (o:cA):Prop:=match q with
 | .nx s=>∃ z,(o = .nx z\/o = .ct z)/\P s z
 | .bk s=>∃ z,o = .bk z/\P s z
 | .rt r=>∃ z,o = .rt (er r) z/\fin sE z=some (ea r)
def PL (sE:List SD) (er:ρ->D) (ea:ρ->List SD) (P:σ->List SD->Prop) (q:Oc ρ σ) (o:cA):Prop:=match q with
 | .nx s=>∃ z,o = .nx z/\P s z
 | .bk _=>False
 | .rt r=>∃ z,o = .rt (er r) z/\fin sE z=some (ea r)
end
theorem DY {np N:Nat} {b:AS} {sE s0 a:List SD} {d:D} (h:PR sE d a (b FUEL s0)) (hl:sE.length=np) (hs:sE++List.replicate (N - sE.length) .un=s0):yU np N b sE = .ret d a:=by
 obtain ⟨s,h1,h2⟩:=h
 unfold yU
 rw [if_pos hl]
 rcases h1 with h1 | ⟨h1,rfl⟩
 ·exact pA hs h1 h2
 ·exact abj hs h1 h2
section
variable {R:cA->Prop} {S T U:AS} {n:Nat} {ss s s1:List SD} {C A B E:AE} {d a b:D} {p:Bool} {i:Nat}
theorem sq (h:S n ss = .nx s) (k:R (T n s)):R (cJ S T n ss):=by rw [vp,h]; exact k
theorem ls (h:S n ss = .nx s) (k:R (.nx s)):R (S n ss):=h ▸ k
theorem sk (k:R (T n ss)):R (cJ fU T n ss):=k
theorem Ip (h:S n ss = .rt d s) (k:R (.rt d s)):R (cJ S T n ss):=by rw [vp,h]; exact k
theorem Ae (h:S n ss = .rt d s) (k:R (.rt d s)):R (S n ss):=h ▸ k
theorem Qs (h:C ss = .val (.im (.bl p)) s) (hp:p=true) (k:R (S n s)):R (jh C S T n ss):=by rw [Gg,h,Ii,if_pos hp]; exact k
theorem Qt (h:C ss = .val (.im (.bl p)) s) (hp:¬ p=true) (k:R (T n s)):R (jh C S T n ss):=by rw [Gg,h,Ii,if_neg hp]; exact k
theorem adg (h:C ss = .val (.im (.bl p)) s) (hp:p=true) (k:R (cJ S U n s)):R (cJ (jh C S T) U n ss):=by
 rw [vp,Gg,h,Ii,if_pos hp]; exact k
theorem adh (h:C ss = .val (.im (.bl p)) s) (hp:¬ p=true) (k:R (cJ T U n s)):R (cJ (jh C S T) U n ss):=by
 rw [vp,Gg,h,Ii,if_neg hp]; exact k
theorem s_ret (h:A ss = .val (.im d) s):gH A n ss = .rt d s:=by rw [Uy,h]; rfl
theorem Kh {sd:SD} (h:A ss = .val (.im d) s1) (hi:s1[i]? = some sd) (hn:Fr sd) (e:s1.set i (.im d)=s):lF i A n ss = .nx s:=e ▸ abm h hi hn
theorem acv {sd:SD} (h:A ss = .val (.im d) s1) (hi:s1[i]? = some sd) (hn:Fr sd) (e:s1.set i (.ow false (.lst .im) d)=s):zN i A n ss = .nx s:=by
 subst e
 show (A ss).toS _=_
 rw [h,Cv]
 show zM _ _ _ _=_
 unfold zM
 rw [hi]
 cases sd with
 | un=>rfl
 | im d'=>rfl
 | ow io sh d'=>cases io with
  | true=>exact absurd rfl (hn sh d')
  | false=>rfl
theorem aN (h:ss[i]? = some (.im d)):ak i ss = .val (.im d) ss:=Ut h
theorem VB {io:Bool} {sh:Sh} (h:ss[i]? = some (.ow io sh d)):ak i ss = .val (.sl i) ss:=Uu h
theorem gq:aC d ss = .val (.im d) ss:=rfl
theorem pD {f:F2} {r1 r2:Rv} (hA:A ss = .val r1 s1) (hB:B s1 = .val r2 s) (ga:r1.get s=some a) (gb:r2.get s=some b) (h:f a b=some d):aD f A B ss = .val (.im d) s:=ach hA hB ga gb h
theorem rD (h:A ss = .val (.im (.bl p)) s):jw A ss = .val (.im (.bl (!p))) s:=by rw [Uv,h]; rfl
theorem abp {q:Bool} (hA:A ss = .val (.im (.bl p)) s1) (hp:p=true) (hB:B s1 = .val (.im (.bl q)) s):u9 A B ss = .val (.im (.bl q)) s:=by rw [Uw,hA,wH,if_pos hp,hB]
theorem abq (hA:A ss = .val (.im (.bl p)) s1) (hp:¬ p=true):u9 A B ss = .val (.im (.bl false)) s1:=by rw [Uw,hA,wH,if_neg hp]
theorem Kl (hA:A ss = .val (.im (.bl p)) s1) (hp:p=true):oA A B ss = .val (.im (.bl true)) s1:=by rw [O9,hA,wH,if_pos hp]
theorem Km {q:Bool} (hA:A ss = .val (.im (.bl p)) s1) (hp:¬ p=true) (hB:B s1 = .val (.im (.bl q)) s):oA A B ss = .val (.im (.bl q)) s:=by rw [O9,hA,wH,if_neg hp,hB]
theorem aQ:cM [] ss = .val [] ss:=rfl
theorem aj {As:List AE} {r:Rv} {rs:List Rv} (hA:A ss = .val r s1) (h:cM As s1 = .val rs s):cM (A :: As) ss = .val (r :: rs) s:=by rw [Jp,hA]; simp only [h]
theorem Ko {As:List AE} {rs:List Rv} {ds:List D} (h:cM As ss = .val rs s) (hg:vg rs=some ds) (hl:ds.length≤sizeLine):Lg As ss = .val (.im (.tup ds)) s:=by
 unfold Lg vM; rw [h,rZ,hg,Option.bind_some,if_pos hl]; rfl
theorem pF {As:List AE} {rs:List Rv} {ds:List D} (h:cM As ss = .val rs s) (hg:vg rs=some ds) (hl:ds.length≤sizeLine):rF As ss = .val (.im (.lst ds)) s:=by
 unfold rF vM; rw [h,rZ,hg,Option.bind_some,if_pos hl]; rfl
theorem x_call {F:FnD} {As:List AE} {ds:List D} {z:List SD} (h:cM As ss = .val (ds.map .im) s) (hF:F (ds.map .im) = .ret d z):aCall F As ss = .val (.im d) s:=by
 rw [Pa,h,rZ,UG,Jq]
 simp only [hF,Gi,Bool.true_or,if_true]
theorem Y6 {j k:Nat} {F:FnD} {As:List AE} {rs:List Rv} {sh sh':Sh} {d' x:D} {args z:List SD} {io Vu:Bool} (hA:cM As ss = .val rs s1) (hj:rs[j]? = some (.sl k)) (hi:s1[k]? = some (.ow io sh d)) (ha:Ge rs j (.ow true sh d)=some args) (hF:F args = .ret x z) (hq:z[j]? = some (.ow Vu sh' d')) :
  mO j F As ss = .val (.im x) (s1.set k (.ow io sh' d')):=ade hA hj hi ha hF hq
theorem Af {l:List D} (h:A ss = .val (.im a) s) (hl:a.items=some l):yL A ss = .val l s:=by unfold yL; rw [h]; simp only [hl]
theorem VD {f:List D->Option (List D)} {As:List AE} {rs:List Rv} {ds l:List D} (h:cM As ss = .val rs s) (hg:gets rs s=some ds) (hf:f ds=some l):wG f As ss = .val l s:=by
 unfold wG; rw [h]; show rG.of ((gets rs s).bind f) s=_; rw [hg,Option.bind_some,hf]; rfl
theorem vO {I:AI} {g:GT} {l:List D} {o:cA} (h:I ss = .val l s) (e:d9 g S n l s=o):tM I g S n ss=o:=(Gn h).trans e
theorem CQ {sd:SD} (h:ss[i]? = some sd) (hn:Fr sd):iZ i d ss=some (ss.set i (.im d)):=Gp h hn
end
abbrev Txt:=List Nat
def Y7 {α:Type} (a b:List α):Option (List α):=if a.length+b.length≤sizeLine then some (a++b) else none
def Mf {α:Type} (a:List α):Option (List α):=if a.length≤sizeLine then some a else none
def wL (a b:Int):Option (List Int):=if -(2 ^ 62)≤a/\a < 2 ^ 62 /\ -(2 ^ 62)≤b/\b < 2 ^ 62 then some ((List.range (b - a).toNat).map fun (k:Nat)=>a+(k:Int)) else none
section
variable {α β κ υ:Type}
def VF [DecidableEq κ] (m:List (κ×υ)) (k:κ):Option υ:=match m with
 | []=>none
 | (a,x) :: r=>if a=k then some x else VF r k
def eO {ρ σ τ:Type} (body:τ->σ->Option (Oc ρ σ)):List τ->σ->Option (Oc ρ σ)
 | [],s=>some (.nx s)
 | x :: xs,s=>(body x s).bind fun o=>match o with
  | .nx s'=>eO body xs s'
  | .bk s'=>some (.nx s')
  | .rt r=>some (.rt r)
theorem Ir {ρ σ τ:Type} {g:GT} {B:AS} {n:Nat} {R:D->τ->Prop} {body:τ->σ->Option (Oc ρ σ)} (sE:List SD) (er:ρ->D) (ea:ρ->List SD) (P:σ->List SD->Prop)
  (hB:∀ x s dx ss r,R dx x->P s ss->body x s=some r->∃ s1,g dx ss=some s1/\PB sE er ea P r (B n s1)):∀ {Gz:List D} {xs:List τ} {s:σ} {r:Oc ρ σ} {ss:List SD},Nk R Gz xs->P s ss->eO body xs s=some r->PL sE er ea P r (d9 g B n Gz ss)
 | _,_,s,r,ss, .nil,hp,h=>by cases h; exact ⟨ss,rfl,hp⟩
 | _,_,s,r,ss, .cons ha hr,hp,h=>by
  obtain ⟨o,e1,e2⟩:=bs h
  obtain ⟨s1,g1,hb⟩:=hB _ _ _ _ _ ha hp e1
  cases o with
  | nx s'=>
   obtain ⟨z,k1,k2⟩:=hb
   have f:=Ir sE er ea P hB hr k2 e2
   unfold d9
   rw [g1]
   rcases k1 with k1 | k1 <;> simp only [k1] <;> exact f
  | bk s'=>
   obtain ⟨z,k1,k2⟩:=hb
   cases e2
   refine ⟨z,?_,k2⟩
   unfold d9
   rw [g1]; simp only [k1]
  | rt r'=>
   obtain ⟨z,k1,k2⟩:=hb
   cases e2
   refine ⟨z,?_,k2⟩
   unfold d9
   rw [g1]; simp only [k1]
theorem aeF {I:AI} {g:GT} {C E:AE} {vs:List Nat} {ss s1 s2:List SD} {Gz l:List D} (hI:I ss = .val Gz s1) (h:oG g C E vs Gz (cZ s1 vs) = .val l s2) (hl:l.length≤sizeLine):zQ I g C E vs ss = .val (.im (.lst l)) s2:=by
 unfold zQ
 rw [hI]
 simp only [h]
 show (if l.length≤sizeLine then _ else _)=_
 rw [if_pos hl]
theorem acw {τ υ:Type} {g:GT} {C E:AE} {vs:List Nat} {R:D->τ->Prop} {ey:υ->D} (c:τ->Bool) (f:τ->υ) {w:List SD}
  (hB:∀ x dx,R dx x->∃ s1,g dx w=some s1/\C s1 = .val (.im (.bl (c x))) s1/\E s1 = .val (.im (ey (f x))) s1/\cZ s1 vs=w):∀ {Gz:List D} {xs:List τ},Nk R Gz xs->oG g C E vs Gz w = .val (((xs.filter c).map f).map ey) w
 | _,_, .nil=>rfl
 | _,_, .cons (b:=x) ha hr=>by
  obtain ⟨s1,g1,k1,k2,k3⟩:=hB _ _ ha
  have ih:=acw c f hB hr
  unfold oG
  rw [g1]
  by_cases h:c x=true
  ·rw [h] at k1
   simp only [k1,k2,k3,ih,List.filter_cons,h,if_true,List.map_cons]
  ·have h':c x=false:=by simpa using h
   rw [h'] at k1
   simp only [k1,k3,ih,List.filter_cons,h',Bool.false_eq_true,if_false]
end
end TY
namespace TY
open PySem PySem.Spec PyProof.Rows L2 DL SW
section
variable {a b c i j v:Int} {s t u:Txt} {α β κ υ:Type} {x y:D}
theorem acy:iV (.int a) (.int b)=some (.int (a+b)):=rfl
theorem acz:Ji (.int a) (.int b)=some (.int (a - b)):=rfl
theorem Y8 {x y:List D} (h:x.length+y.length≤sizeLine):iV (.lst x) (.lst y)=some (.lst (x++y)):=by
 show dO JH (dO JK (dO JL JM)) _ _=_
 have e:JM (.lst x) (.lst y)=some (.lst (x++y)):=by
  show (if _ then _ else _)=_
  rw [if_pos h]
 unfold dO JH JK JL
 simp only [e]
theorem acA {e:α->D} {l m r:List α} (h:Y7 l m=some r):iV (.lst (l.map e)) (.lst (m.map e))=some (.lst (r.map e)):=by
 unfold Y7 at h
 split at h
 ·cases h; rw [List.map_append]; exact Y8 (by rw [List.length_map,List.length_map]; assumption)
 ·cases h
theorem Z4:tH (.int a) (.int b)=some (.bl (decide (a=b))):=Lz a b
theorem abr {e:α->β} {l:List α} {k:Int}:atI (l.map e) k=(atI l k).map e:=by
 unfold atI
 rw [List.length_map]
 cases ixN l.length k with
 | none=>rfl
 | some m=>simp
theorem Iu {e:α->D} {l:List α} {z:α} (h:atI l i=some z):gJ (.lst (l.map e)) (.int i)=some (e z):=by
 show dO Mv (dO Lp Lq) _ _=_
 have q:Mv (.lst (l.map e)) (.int i)=some (e z):=by
  show dO Dh (dO Jj Lf) _ _=_
  unfold dO Dh
  simp only [abr,h,Option.map_some]
 unfold dO
 rw [q]
theorem adi {l:List Int} (h:wL a b=some l):aes [.int a, .int b]=some (l.map D.int):=by
 unfold wL at h
 split at h
 ·rename_i k; cases h
  show qD a b=_
  unfold qD
  rw [if_pos k,List.map_map]; rfl
 ·cases h
theorem Kr {l:List Int} (h:wL 0 b=some l):yM [.int b]=some (l.map D.int):=adi (a:=0) h
theorem GD {l:List D}:D.items (.lst l)=some l:=rfl
variable {n k:Nat} {ss s1 s2:List SD} {A B C E:AE} {d:D} {io:Bool}
def Ea (row:List Int) (n lim:Int):Option (Int×Int):=if 0≤n/\0 < lim/\0 < row.length then some (draw row n lim,n+1) else none
theorem Qu {row:List Int} {n lim:Int} {r:Int×Int} (h:Ea row n lim=some r):fB [.im (bK row),tR n, .im (.int lim)] = .ret (.int r.1) [.im (bK row),tR r.2, .im (.int lim)]:=by
 unfold Ea at h
 split at h
 ·rename_i k
  obtain ⟨k1,k2,k3⟩:=k
  cases h
  show (match qH (bK row) (.int lim) n with | some q=>FP.ret q.1 [.im (bK row),tR q.2, .im (.int lim)] | none => .bad)=_
  have:qH (bK row) (.int lim) n=some (.int (draw row n lim),n+1):=by
   unfold qH
   rw [J8 k3,Option.bind_some]
   show (if 0≤n/\0 < lim then _ else none)=_
   rw [if_pos ⟨k1,k2⟩]
  rw [this]
 ·cases h
end
end TY
namespace TY
open PySem PySem.Spec PyProof.Rows L2 DL SW
section
variable {α β κ υ:Type} {n k i:Nat} {ss s s1 s2:List SD} {A B C E:AE} {d x y:D} {io p:Bool}
theorem Y9 {l:List α}:l.filter (fun _=>true)=l:=by simp
theorem Xn {l v:List α} (h:Mf l=some v):l=v/\l.length≤sizeLine:=by
 unfold Mf at h
 split at h
 ·cases h; exact ⟨rfl,by assumption⟩
 ·cases h
theorem Z5 {I:AI} {g:GT} {vs:List Nat} {e:α->D} {Gz:List D} {l v:List α} {w:List SD} (hI:I ss = .val Gz s1) (h:oG g C E vs Gz w = .val (l.map e) s2) (hf:Mf l=some v) (hw:cZ s1 vs=w):zQ I g C E vs ss = .val (.im (.lst (v.map e))) s2:=by
 obtain ⟨rfl,hl⟩:=Xn hf
 subst hw
 exact aeF hI h (by rw [List.length_map]; exact hl)
end
end TY
namespace TY
open PySem PySem.Spec PyProof.Rows L2 DL SW
section
variable {d f w:D} {b:Bool}
theorem acB {g:D->Option D} {a r:D} (h:g a=some r):MN g [.im a] = .ret r [.im a]:=by
 show (match g a with | some d=>FP.ret d [.im a] | none => .bad)=_
 rw [h]
theorem acC {g:D->D->Option D} {a b r:D} (h:g a b=some r):Fj g [.im a, .im b] = .ret r [.im a, .im b]:=by
 show (match g a b with | some d=>FP.ret d [.im a, .im b] | none => .bad)=_
 rw [h]
def Ks (d:D):Option Bool:=if jH d=true/\D.dep d < 20 then some (Gk d) else none
def bZ (f w:D):Option Bool:=if jH f=true/\jH w=true/\D.dep w < 20 then some (yS w f) else none
theorem lA (h:bZ f w=some b):eZ 20 [.im f, .im w] = .ret (.bl b) [.im f, .im w]:=by
 unfold bZ at h
 split at h
 ·rename_i c; cases h
  exact acC (by show (if _ then _ else _)=_; rw [if_pos c])
 ·cases h
def CT (ns:List Int):Option (List Int):=some (ji ns)
theorem Mg {ns row:List Int} (h:CT ns=some row):gK [.im (.fz (ns.map .int))] = .ret (bK row) [.im (.fz (ns.map .int))]:=by
 cases h
 refine acB ?_
 show (intsOf (ns.map D.int)).bind _=_
 rw [Dz]; rfl
abbrev Fault:=Txt×Txt×Int
abbrev eF:Fault->D:=fun q => .tup [.str q.1, .str q.2.1, .int q.2.2]
end
end TY
namespace TY
open PySem PySem.Spec PyProof.Rows L2 DL SW
theorem GF {row:List Int} {n lim:Int} (hp:0 < row.length) (hn:0≤n) (hl:0 < lim):Ea row n lim=some (draw row n lim,n+1):=by
 unfold Ea; rw [if_pos ⟨hn,hl,hp⟩]
structure TabW (t:List Fault):Prop where
 few:t.length≤8
 good:∀ p∈t,good p.1/\good p.2.1
 ne:∀ p∈t,p.1 ≠ p.2.1
 pr:∀ p∈t,1≤p.2.2/\p.2.2≤9
 up:t.Pairwise fun p q=>klt p.1 p.2.1 q.1 q.2.1=true
theorem adk {p:Fault} (h1:good p.1) (h2:good p.2.1):jH (eF p)=true:=by
 show (decide (3≤sizeLine) && (pG p.1 && (pG p.2.1 && (true && true))))=true
 rw [M7 h1.1 h1.2,M7 h2.1 h2.2,decide_eq_true (by decide)]; rfl
theorem abt {t:List Fault} (h:∀ p∈t,good p.1/\good p.2.1) (hl:t.length≤100000):jH (.tup (t.map eF))=true/\D.dep (.tup (t.map eF))≤2/\frz (.tup (t.map eF)) = .tup (t.map eF):=by
 have go:vq (t.map eF)=true/\D.deps (t.map eF)≤1/\frzs (t.map eF)=t.map eF:=by
  clear hl
  induction t with
  | nil=>exact ⟨rfl,Nat.zero_le _,rfl⟩
  | cons p t ih=>
   obtain ⟨i1,i2,i3⟩:=ih fun q hq=>h q (List.mem_cons_of_mem _ hq)
   refine ⟨?_,?_,?_⟩
   ·show (jH (eF p) && vq (t.map eF))=true
    rw [adk (h p List.mem_cons_self).1 (h p List.mem_cons_self).2,i1]; rfl
   ·show max (D.dep (eF p)) (D.deps (t.map eF))≤1
    have:D.dep (eF p)=1:=rfl
    omega
   ·show frz (eF p) :: frzs (t.map eF)=_
    rw [i3]; rfl
 refine ⟨?_,?_,?_⟩
 ·show (decide ((t.map eF).length≤sizeLine) && vq (t.map eF))=true
  rw [go.1,List.length_map,decide_eq_true (Nat.le_trans hl (by decide))]; rfl
 ·show D.deps (t.map eF)+1≤2
  omega
 ·show D.tup (frzs (t.map eF))=_
  rw [go.2.2]
theorem TabW.fault {t:List Fault} (h:TabW t) {p:Fault} (hp:p∈t):oJ (eF p)=true:=Vy (h.good p hp).1 (h.good p hp).2 (h.ne p hp) (h.pr p hp).1 (h.pr p hp).2
theorem TabW.table {t:List Fault} (h:TabW t):Gk (.tup (t.map eF))=true:=by
 obtain ⟨o1,o2,o3⟩:=abt h.good (Nat.le_trans h.few (by decide))
 have fid:(t.map eF).map frz=t.map eF:=by
  rw [List.map_map]; rfl
 have rS:∀ r∈t.map eF,Qa r:=fun r hr=>by
  obtain ⟨p,_,rfl⟩:=List.mem_map.mp hr
  exact ⟨_,_,_,rfl⟩
 show (decide ((t.map eF).length≤8) && (t.map eF).all oJ && jZ ltB ((t.map eF).map frz) && Cy (((t.map eF).map frz).map cW))=true
 have af:(t.map eF).all oJ=true:=List.all_eq_true.mpr fun x hx=>by
  obtain ⟨p,hp,rfl⟩:=List.mem_map.mp hx
  exact h.fault hp
 have up:jZ ltB ((t.map eF).map cW)=true:=by
  have u:=h.up
  clear af rS fid o1 o2 o3
  induction t with
  | nil=>rfl
  | cons p t ih=>
   cases t with
   | nil=>rfl
   | cons q t=>
    have hu:=List.pairwise_cons.mp u
    show (ltB (keyD p.1 p.2.1) (keyD q.1 q.2.1) && jZ ltB (((q :: t).map eF).map cW))=true
    rw [yF,hu.1 q List.mem_cons_self]
    have hq:TabW (q :: t):=⟨by have:=h.few; simp at this ⊢; omega,fun z hz=>h.good z (List.mem_cons_of_mem _ hz),fun z hz=>h.ne z (List.mem_cons_of_mem _ hz),fun z hz=>h.pr z (List.mem_cons_of_mem _ hz),hu.2⟩
    rw [ih hq hu.2]; rfl
 rw [fid,af,List.length_map,decide_eq_true h.few,Bool.and_assoc,Vw rS,up]; rfl
structure Z6 (t:List Fault) (d:D):Prop where
 ok:jH d=true
 dep:D.dep d < 20
 fz:frz d = .tup (t.map eF)
theorem Z6.is {t:List Fault} {d:D} (h:Z6 t d) (ht:TabW t):Ks d=some true:=by
 unfold Ks
 rw [if_pos ⟨h.ok,h.dep⟩,<- Xj,h.fz,ht.table]
theorem abu {f w:D} (hf:jH f=true) (hw:jH w=true) (hd:D.dep w < 20):bZ f w=some (yS w f):=by
 unfold bZ; rw [if_pos ⟨hf,hw,hd⟩]
theorem abv {d:D} (hz:frz d=d) (ho:jH d=true) (hd:D.dep d < 20):bZ d d=some true:=by
 rw [abu ho ho hd,U7 d hz ho]
end TY
namespace TY
open PySem PySem.Spec PyProof.Rows L2 DL SW
end TY
namespace TY
open PySem PySem.Spec PyProof.Rows L2 DL
end TY
namespace TY
open PySem PySem.Spec PyProof.Rows L2 DL
end TY
namespace TY
open PySem PySem.Spec PyProof.Rows L2 DL SW
end TY
namespace TY
open PySem PySem.Spec PyProof.Rows L2 DL SW
end TY
namespace SW
open PySem PySem.Spec PyProof.Rows L2 DL
end SW
namespace SW
open PySem PySem.Spec PyProof.Rows L2 DL
end SW
namespace SW
open PySem PySem.Spec PyProof.Rows L2 DL
end SW
namespace SW
open PySem PySem.Spec PyProof.Rows L2 DL
end SW
namespace SW
open PySem PySem.Spec PyProof.Rows L2 DL
end SW
namespace SW
open PySem PySem.Spec PyProof.Rows L2 DL
end SW
namespace TY
open PySem PySem.Spec PyProof.Rows L2 DL SW
theorem adl {A:AE} {ss s1:List SD} {i:Int} (h:A ss = .val (.im (.int i)) s1):Pg A ss = .val (.im (.int (-i))) s1:=by
 unfold Pg; rw [h]; rfl
end TY
namespace TY
open PySem PySem.Spec PyProof.Rows L2 DL SW
end TY
namespace TY
open PySem PySem.Spec PyProof.Rows L2 DL SW
end TY
namespace TY
open PySem PySem.Spec PyProof.Rows L2 DL SW
section
variable {A:AE} {As:List AE} {ss s1 s:List SD}
def st3 (a b:Txt) (i:Int):Option Bool:=if 0≤i then some (stW a b i.toNat) else none
end
end TY
namespace TY
open PySem PySem.Spec PyProof.Rows L2 DL
end TY
namespace TY
open PySem PySem.Spec PyProof.Rows L2 DL
section
variable {α β κ κ2 υ τ:Type} {A B C:AE} {ss s1 s2 s3 s s':List SD} {d x y:D} {i n:Nat} {io:Bool}
def Oa (kf:α->Option β):List α->Option (List β)
 | []=>some []
 | x :: l=>(kf x).bind fun k=>(Oa kf l).map (k :: ·)
end
end TY
namespace TY
open PySem PySem.Spec PyProof.Rows L2 DL SW
def Xo (f:F2) (a b:D):Option Bool:=(f a b).bind fun r=>match r with
 | .bl v=>some v
 | _=>none
theorem Xp {f:F2} {a b:D} {v:Bool} (h:Xo f a b=some v):f a b=some (.bl v):=by
 unfold Xo at h
 cases q:f a b with
 | none=>rw [q] at h; cases h
 | some r=>
  rw [q] at h
  cases r <;> simp at h
  rw [h]
end TY
namespace TY
open PySem PySem.Spec PyProof.Rows L2 DL SW
section
variable {ss s1:List SD}
theorem fu {c:Str} {FS:List Str} {π:List Nat} {As:List AE} {rs:List Rv} {d:D} (hA:cM As ss = .val rs s1) (h:Nf c FS π rs=some d):jW c FS π As ss = .val (.im d) s1:=by
 unfold jW; rw [hA]
 show Out.ofD (Nf c FS π rs) s1=_
 rw [h]; rfl
theorem Az {CS:List Str} {f:Str} {A:AE} {d d':D} (hA:A ss = .val (.im d) s1) (h:qI CS f d=some d'):IV CS f A ss = .val (.im d') s1:=by
 unfold IV; rw [hA]
 show Out.ofD (qI CS f d) s1=_
 rw [h]; rfl
def xT (tab:List (Str×Bool)):D->Option Bool
 | .ob c _ _=>tab.lookup c
 | _=>none
theorem tX {tab:List (Str×Bool)} {A:AE} {d:D} {b:Bool} (hA:A ss = .val (.im d) s1) (h:xT tab d=some b):nZ tab A ss = .val (.im (.bl b)) s1:=by
 unfold nZ; rw [hA]
 show Out.ofD (ZX tab d) s1=_
 have:ZX tab d=some (.bl b):=by
  unfold xT at h
  split at h
  ·show (tab.lookup _).map D.bl=_; rw [h]; rfl
  ·cases h
 rw [this]; rfl
end
end TY
namespace oN
end oN
namespace Va
open PySem PySem.Spec PyProof.Rows L2 DL SW TY oN
def sG:AS:=
 (cJ (lF 1 (rF [(nZ [("BadValue",true),("BadText",false),("BadPaper",false),("NotMeant",false),("NoWord",false),("Mixed",false),("TooMany",false)] (ak 0)),(nZ [("BadValue",false),("BadText",true),("BadPaper",false),("NotMeant",false),("NoWord",false),("Mixed",false),("TooMany",false)] (ak 0)),(nZ [("BadValue",false),("BadText",false),("BadPaper",true),("NotMeant",false),("NoWord",false),("Mixed",false),("TooMany",false)] (ak 0)),(nZ [("BadValue",false),("BadText",false),("BadPaper",false),("NotMeant",true),("NoWord",false),("Mixed",false),("TooMany",false)] (ak 0))]))
 (gH (aD iV (ak 1) (rF [(nZ [("BadValue",false),("BadText",false),("BadPaper",false),("NotMeant",false),("NoWord",true),("Mixed",false),("TooMany",false)] (ak 0)),(nZ [("BadValue",false),("BadText",false),("BadPaper",false),("NotMeant",false),("NoWord",false),("Mixed",true),("TooMany",false)] (ak 0)),(nZ [("BadValue",false),("BadText",false),("BadPaper",false),("NotMeant",false),("NoWord",false),("Mixed",false),("TooMany",true)] (ak 0))]))))
def lB:FnD:=yU 1 2 sG
theorem Xq:∀ ss,lB ss ≠ .bad->ss.length=1:=DQ
theorem Xr:∀ ss,lB ss ≠ .bad->∃ n,runB 2 sG n ss=lB ss:=DR
def ju:AS:=
 (cJ (jh (oA (nZ [("BadValue",false),("BadText",false),("BadPaper",false),("NotMeant",false),("NoWord",false),("Mixed",false),("TooMany",false)] (ak 0)) (nZ [("BadValue",false),("BadText",false),("BadPaper",false),("NotMeant",false),("NoWord",false),("Mixed",false),("TooMany",false)] (ak 0))) (gH (aC (.bl true))) fU)
 (gH (oA (nZ [("BadValue",false),("BadText",false),("BadPaper",false),("NotMeant",false),("NoWord",false),("Mixed",false),("TooMany",false)] (ak 0)) (jw (nZ [("BadValue",true),("BadText",true),("BadPaper",true),("NotMeant",true),("NoWord",true),("Mixed",true),("TooMany",true)] (ak 0))))))
def dZ:FnD:=yU 1 1 ju
theorem Mh:∀ ss,dZ ss ≠ .bad->ss.length=1:=DQ
theorem Mi:∀ ss,dZ ss ≠ .bad->∃ n,runB 1 ju n ss=dZ ss:=DR
def gD:AS:=
 (Kf 1 [("BadValue",false),("BadText",false),("BadPaper",false),("NotMeant",true),("NoWord",false),("Mixed",false),("TooMany",false)]
 (cJ (jh (aD tH (ak 0) (aC (.int 0))) (Ij "TooMany") fU)
 (Io "NotMeant" ["text"] [0] [(aC (.str [97]))])))
def dh:FnD:=yU 1 2 gD
theorem NQ:∀ ss,dh ss ≠ .bad->ss.length=1:=DQ
theorem NT:∀ ss,dh ss ≠ .bad->∃ n,runB 2 gD n ss=dh ss:=DR
def Qv:AS:=
 (jh (jw (aCall (eZ 20) [(IV ["BadValue","BadText","BadPaper"] "at" (ak 5)),(ak 3)])) (gH (aC (.bl false))) fU)
def Qw:AS:=
 (jh (jw (aCall (eZ 20) [(IV ["NotMeant","Mixed"] "text" (ak 5)),(ak 4)])) (gH (aC (.bl false))) fU)
def Qx:AS:=
 (jh (jw (aCall (eZ 20) [(IV ["NoWord","Mixed"] "word" (ak 5)),(ak 4)])) (gH (aC (.bl false))) fU)
def Qy:AS:=
 (jh (jw (aCall (eZ 20) [(Lg [(IV ["NoWord","Mixed"] "word" (ak 5)),(IV ["NotMeant","Mixed"] "text" (ak 5))]),(Lg [(aC (.str [97,98])),(aC (.str [97]))])])) (gH (aC (.bl false))) fU)
def Qz:AS:=
 (jh (oA (aD Fx (aCall lB [(aD gJ (ak 6) (ak 7))]) (zQ (wG yM [(aC (.int 7))]) (iZ 8) Vn (aD tH (ak 8) (ak 7)) [8])) (oA (aCall dZ [(aD gJ (ak 6) (ak 7))]) (jw (nZ [("BadValue",true),("BadText",true),("BadPaper",true),("NotMeant",true),("NoWord",true),("Mixed",true),("TooMany",true)] (aD gJ (ak 6) (ak 7)))))) (gH (aC (.bl false))) fU)
def Ku:AS:=
 (cJ (lF 1 (aCall gK [(ak 0)]))
 (cJ (zN 2 (rF [(aC (.int 0))]))
 (cJ (lF 3 (aD Ji (mO 1 fB [(ak 1),(ak 2),(aC (.int 997))]) (aC (.int 9))))
 (cJ (lF 4 (aD gJ (rF [(aC .non),(Pg (ak 3)),(aC (.str [120])),(Lg [(ak 3),(aC (.int 2))]),(aC (.bl true))]) (mO 1 fB [(ak 1),(ak 2),(aC (.int 5))])))
 (cJ (tM (yL (rF [(jW "BadValue" ["at"] [0] [(ak 3)]),(jW "BadText" ["at"] [0] [(ak 3)]),(jW "BadPaper" ["at"] [0] [(ak 3)]),(jW "BadValue" ["at"] [0] [(ak 3)]),(jW "BadText" ["at"] [0] [(ak 3)]),(jW "BadPaper" ["at"] [0] [(ak 3)])])) (iZ 5) Qv)
 (cJ (tM (yL (rF [(jW "NotMeant" ["text"] [0] [(ak 4)]),(jW "NotMeant" ["text"] [0] [(ak 4)])])) (iZ 5) Qw)
 (cJ (tM (yL (rF [(jW "NoWord" ["word"] [0] [(ak 4)]),(jW "NoWord" ["word"] [0] [(ak 4)])])) (iZ 5) Qx)
 (cJ (tM (yL (rF [(jW "Mixed" ["word","text"] [0,1] [(aC (.str [97,98])),(aC (.str [97]))]),(jW "Mixed" ["word","text"] [1,0] [(aC (.str [97])),(aC (.str [97,98]))])])) (iZ 5) Qy)
 (cJ (lF 6 (rF [(jW "BadValue" ["at"] [0] [(ak 3)]),(jW "BadText" ["at"] [0] [(ak 3)]),(jW "BadPaper" ["at"] [0] [(ak 3)]),(jW "NotMeant" ["text"] [0] [(ak 4)]),(jW "NoWord" ["word"] [0] [(ak 4)]),(jW "Mixed" ["word","text"] [0,1] [(aC (.str [97])),(aC (.str [98]))]),(aC (.ob "TooMany" [] []))]))
 (cJ (tM (wG yM [(aC (.int 7))]) (iZ 7) Qz)
 (gH (u9 (jw (aCall dh [(aC (.int 0))])) (aCall dh [(aD iV (aC (.int 1)) (mO 1 fB [(ak 1),(ak 2),(aC (.int 9))]))])))))))))))))
def Iv:FnD:=yU 1 9 Ku
theorem adn:∀ ss,Iv ss ≠ .bad->ss.length=1:=DQ
theorem ado:∀ ss,Iv ss ≠ .bad->∃ n,runB 9 Ku n ss=Iv ss:=DR
def gG (cC:D):Option (List (Bool)):=
 Option.bind (xT [("BadValue",true),("BadText",false),("BadPaper",false),("NotMeant",false),("NoWord",false),("Mixed",false),("TooMany",false)] cC) fun i1=>
 Option.bind (xT [("BadValue",false),("BadText",true),("BadPaper",false),("NotMeant",false),("NoWord",false),("Mixed",false),("TooMany",false)] cC) fun i2=>
 Option.bind (xT [("BadValue",false),("BadText",false),("BadPaper",true),("NotMeant",false),("NoWord",false),("Mixed",false),("TooMany",false)] cC) fun i3=>
 Option.bind (xT [("BadValue",false),("BadText",false),("BadPaper",false),("NotMeant",true),("NoWord",false),("Mixed",false),("TooMany",false)] cC) fun i4=>
 Option.bind (xT [("BadValue",false),("BadText",false),("BadPaper",false),("NotMeant",false),("NoWord",true),("Mixed",false),("TooMany",false)] cC) fun i5=>
 Option.bind (xT [("BadValue",false),("BadText",false),("BadPaper",false),("NotMeant",false),("NoWord",false),("Mixed",true),("TooMany",false)] cC) fun i6=>
 Option.bind (xT [("BadValue",false),("BadText",false),("BadPaper",false),("NotMeant",false),("NoWord",false),("Mixed",false),("TooMany",true)] cC) fun i7=>
 Option.bind (Y7 [i1,i2,i3,i4] [i5,i6,i7]) fun t8=>
 some t8
theorem Nm {cC:D} {r:List (Bool)} (h:gG cC=some r):lB [.im (cC)] = .ret (.lst (List.map D.bl r)) [.im (cC)]:=by
 unfold gG at h
 refine DY (s0:=[.im (cC), .un]) ?_ rfl rfl
 unfold sG
 obtain ⟨i1,VG,h⟩:=bs h
 obtain ⟨i2,Za,h⟩:=bs h
 obtain ⟨i3,aeG,h⟩:=bs h
 obtain ⟨i4,aeH,h⟩:=bs h
 refine sq (s:=[.im (cC), .im (.lst (List.map D.bl [i1,i2,i3,i4]))]) (Kh (pF (aj (tX (aN rfl) VG) (aj (tX (aN rfl) Za) (aj (tX (aN rfl) aeG) (aj (tX (aN rfl) aeH) aQ)))) rfl (show 4≤sizeLine by decide)) rfl yr rfl) ?_
 obtain ⟨i5,aeI,h⟩:=bs h
 obtain ⟨i6,VH,h⟩:=bs h
 obtain ⟨i7,Zb,h⟩:=bs h
 obtain ⟨t8,aeJ,h⟩:=bs h
 refine Ae (s_ret (pD (aN rfl) (pF (aj (tX (aN rfl) aeI) (aj (tX (aN rfl) VH) (aj (tX (aN rfl) Zb) aQ))) rfl (show 3≤sizeLine by decide)) rfl rfl (acA (e:=D.bl) aeJ))) ?_
 cases h
 exact ⟨_, .inl rfl,rfl⟩
def cI (cC:D):Option (Bool):=
 Option.bind (xT [("BadValue",false),("BadText",false),("BadPaper",false),("NotMeant",false),("NoWord",false),("Mixed",false),("TooMany",false)] cC) fun i1=>
 Option.bind (if i1=true then
   some (true)
 else
   Option.bind (xT [("BadValue",false),("BadText",false),("BadPaper",false),("NotMeant",false),("NoWord",false),("Mixed",false),("TooMany",false)] cC) fun i2=>
   some (i2)) fun (v3:Bool)=>
 if v3=true then
  some true
 else
  Option.bind (xT [("BadValue",false),("BadText",false),("BadPaper",false),("NotMeant",false),("NoWord",false),("Mixed",false),("TooMany",false)] cC) fun i6=>
  Option.bind (if i6=true then
    some (true)
  else
    Option.bind (xT [("BadValue",true),("BadText",true),("BadPaper",true),("NotMeant",true),("NoWord",true),("Mixed",true),("TooMany",true)] cC) fun i7=>
    some ((!i7))) fun (v8:Bool)=>
  some v8
set_option maxHeartbeats 8000000 in
theorem CV {cC:D} {r:Bool} (h:cI cC=some r):dZ [.im (cC)] = .ret (.bl r) [.im (cC)]:=by
 unfold cI at h
 refine DY (s0:=[.im (cC)]) ?_ rfl rfl
 unfold ju
 obtain ⟨i1,VG,h⟩:=bs h
 obtain ⟨v3,aeK,h⟩:=bs h
 have acD:((oA (nZ [("BadValue",false),("BadText",false),("BadPaper",false),("NotMeant",false),("NoWord",false),("Mixed",false),("TooMany",false)] (ak 0)) (nZ [("BadValue",false),("BadText",false),("BadPaper",false),("NotMeant",false),("NoWord",false),("Mixed",false),("TooMany",false)] (ak 0)))) [.im (cC)] = .val (.im (.bl v3)) [.im (cC)]:=by
  clear h
  have h:=aeK
  by_cases c4:i1=true
  ·rw [if_pos c4] at h
   cases h
   exact Kl (tX (aN rfl) VG) c4
  ·rw [if_neg c4] at h
   obtain ⟨i2,Za,h⟩:=bs h
   cases h
   exact Km (tX (aN rfl) VG) c4 (tX (aN rfl) Za)
 by_cases c5:v3=true
 ·rw [if_pos c5] at h
  refine adg acD c5 ?_
  refine Ip (s_ret gq) ?_
  cases h
  exact ⟨_, .inl rfl,rfl⟩
 ·rw [if_neg c5] at h
  refine adh acD c5 ?_
  refine sk ?_
  obtain ⟨i6,VH,h⟩:=bs h
  obtain ⟨v8,aeL,h⟩:=bs h
  have aeM:((oA (nZ [("BadValue",false),("BadText",false),("BadPaper",false),("NotMeant",false),("NoWord",false),("Mixed",false),("TooMany",false)] (ak 0)) (jw (nZ [("BadValue",true),("BadText",true),("BadPaper",true),("NotMeant",true),("NoWord",true),("Mixed",true),("TooMany",true)] (ak 0))))) [.im (cC)] = .val (.im (.bl v8)) [.im (cC)]:=by
   clear h
   have h:=aeL
   by_cases c9:i6=true
   ·rw [if_pos c9] at h
    cases h
    exact Kl (tX (aN rfl) VH) c9
   ·rw [if_neg c9] at h
    obtain ⟨i7,Zb,h⟩:=bs h
    cases h
    exact Km (tX (aN rfl) VH) c9 (rD (tX (aN rfl) Zb))
  refine Ae (s_ret aeM) ?_
  cases h
  exact ⟨_, .inl rfl,rfl⟩
def xO (x_at:Int):Option Bool:=some (!decide (x_at=0))
theorem xP {x_at:Int} {r:Bool} (h:xO x_at=some r):dh [.im (.int x_at)] = .ret (.bl r) [.im (.int x_at)]:=by
 cases h
 by_cases c:x_at=0
 ·subst c; rfl
 ·have z:dh [.im (.int x_at)] = .ret (.bl true) [.im (.int x_at)]:=by
   refine DY (s0:=[.im (.int x_at), .un]) ?_ rfl rfl
   have e:(aD tH (ak 0) (aC (.int 0))) [.im (.int x_at), .un] = .val (.im (.bl (decide (x_at=0)))) [.im (.int x_at), .un]:=pD (aN rfl) gq rfl rfl Z4
   rw [decide_eq_false c] at e
   have e2:(cJ (jh (aD tH (ak 0) (aC (.int 0))) (Ij "TooMany") fU) (Io "NotMeant" ["text"] [0] [aC (.str [97])])) FUEL [.im (.int x_at), .un] = .exc "NotMeant" [("text", .str [97])] [.im (.int x_at), .un]:=by
    show (match (jh (aD tH (ak 0) (aC (.int 0))) (Ij "TooMany") fU) FUEL [.im (.int x_at), .un] with | .nx s=>_ | o=>_)=_
    unfold jh
    rw [e]
    rfl
   have e3:gD FUEL [.im (.int x_at), .un] = .rt (.bl true) [.im (.int x_at), .un]:=by
    unfold gD Kf
    rw [e2]
    rfl
   rw [e3]
   exact ⟨_, .inl rfl,rfl⟩
  rw [z,decide_eq_false c]; rfl
def Oh (aY:List Int):Option (Bool):=
 Option.bind (CT aY) fun y1=>
 Option.bind (Ea y1 0 997) fun n2=>
 Option.bind (Ea y1 n2.2 5) fun n3=>
 Option.bind (atI [(.non:D),(.int (-(n2.1 - 9)):D),(.str [120]:D),(.tup [.int (n2.1 - 9), .int 2]:D),(.bl true:D)] n3.1) fun t4=>
 Option.bind (eO (fun (x6:D) (s5:Unit)=>
   Option.bind (qI ["BadValue","BadText","BadPaper"] "at" x6) fun x10=>
   Option.bind (bZ x10 (.int (n2.1 - 9))) fun y11=>
   if (!y11)=true then
    some (.rt false)
   else
    some (.nx ())) [(.ob "BadValue" ["at"] [.int (n2.1 - 9)]:D),(.ob "BadText" ["at"] [.int (n2.1 - 9)]:D),(.ob "BadPaper" ["at"] [.int (n2.1 - 9)]:D),(.ob "BadValue" ["at"] [.int (n2.1 - 9)]:D),(.ob "BadText" ["at"] [.int (n2.1 - 9)]:D),(.ob "BadPaper" ["at"] [.int (n2.1 - 9)]:D)] ()) fun (o8:Oc (Bool) (Unit))=>
 match o8 with
 | .bk _=>none
 | .rt q79=>some q79
 | .nx s13=>
  Option.bind (eO (fun (Z7:D) (s15:Unit)=>
    Option.bind (qI ["NotMeant","Mixed"] "text" Z7) fun x20=>
    Option.bind (bZ x20 t4) fun Xu=>
    if (!Xu)=true then
     some (.rt false)
    else
     some (.nx ())) [(.ob "NotMeant" ["text"] [t4]:D),(.ob "NotMeant" ["text"] [t4]:D)] ()) fun (o18:Oc (Bool) (Unit))=>
  match o18 with
  | .bk _=>none
  | .rt q78=>some q78
  | .nx s23=>
   Option.bind (eO (fun (x26:D) (s25:Unit)=>
     Option.bind (qI ["NoWord","Mixed"] "word" x26) fun x30=>
     Option.bind (bZ x30 t4) fun Xv=>
     if (!Xv)=true then
      some (.rt false)
     else
      some (.nx ())) [(.ob "NoWord" ["word"] [t4]:D),(.ob "NoWord" ["word"] [t4]:D)] ()) fun (o28:Oc (Bool) (Unit))=>
   match o28 with
   | .bk _=>none
   | .rt q77=>some q77
   | .nx s33=>
    Option.bind (eO (fun (x36:D) (Z8:Unit)=>
      Option.bind (qI ["NoWord","Mixed"] "word" x36) fun x40=>
      Option.bind (qI ["NotMeant","Mixed"] "text" x36) fun x41=>
      Option.bind (bZ (.tup [x40,x41]) (.tup [.str [97,98], .str [97]])) fun QC=>
      if (!QC)=true then
       some (.rt false)
      else
       some (.nx ())) [(.ob "Mixed" ["word","text"] [.str [97,98], .str [97]]:D),(.ob "Mixed" ["word","text"] [.str [97,98], .str [97]]:D)] ()) fun (o38:Oc (Bool) (Unit))=>
    match o38 with
    | .bk _=>none
    | .rt q76=>some q76
    | .nx s44=>
     Option.bind (some ([(.ob "BadValue" ["at"] [.int (n2.1 - 9)]:D),(.ob "BadText" ["at"] [.int (n2.1 - 9)]:D),(.ob "BadPaper" ["at"] [.int (n2.1 - 9)]:D),(.ob "NotMeant" ["text"] [t4]:D),(.ob "NoWord" ["word"] [t4]:D),(.ob "Mixed" ["word","text"] [.str [97], .str [98]]:D),(.ob "TooMany" [] []:D)])) fun dB=>
     Option.bind (wL 0 7) fun l47=>
     Option.bind (eO (fun (x49:Int) (Z9:Unit)=>
       Option.bind (atI dB x49) fun Np=>
       Option.bind (gG Np) fun Vb=>
       Option.bind (wL 0 7) fun QD=>
       Option.bind (Mf (QD.map (fun (x56:Int)=>(decide (x56=x49))))) fun Vc=>
       Option.bind (Xo Fx (.lst (List.map D.bl Vb):D) (.lst (List.map D.bl Vc):D)) fun QF=>
       Option.bind (if QF=true then
         some (true)
       else
         Option.bind (atI dB x49) fun Nq=>
         Option.bind (cI Nq) fun QG=>
         Option.bind (if QG=true then
           some (true)
         else
           Option.bind (atI dB x49) fun Vd=>
           Option.bind (xT [("BadValue",true),("BadText",true),("BadPaper",true),("NotMeant",true),("NoWord",true),("Mixed",true),("TooMany",true)] Vd) fun Ve=>
           some ((!Ve))) fun (QH:Bool)=>
         some (QH)) fun (Nr:Bool)=>
       if Nr=true then
        some (.rt false)
       else
        some (.nx ())) l47 ()) fun (o51:Oc (Bool) (Unit))=>
     match o51 with
     | .bk _=>none
     | .rt q75=>some q75
     | .nx s68=>
      Option.bind (xO 0) fun y70=>
      Option.bind (if (!y70)=true then
        Option.bind (Ea y1 n3.2 9) fun n71=>
        Option.bind (xO (1+n71.1)) fun y72=>
        some (y72,n71.2)
      else
        some (false,n3.2)) fun (v73:Bool×Int)=>
      some v73.1
set_option maxHeartbeats 8000000 in
theorem adp {aY:List Int} {r:Bool} (h:Oh aY=some r):Iv [.im (.fz (List.map D.int aY))] = .ret (.bl r) [.im (.fz (List.map D.int aY))]:=by
 unfold Oh at h
 refine DY (s0:=[.im (.fz (List.map D.int aY)), .un, .un, .un, .un, .un, .un, .un, .un]) ?_ rfl rfl
 unfold Ku
 obtain ⟨y1,aeN,h⟩:=bs h
 refine sq (s:=[.im (.fz (List.map D.int aY)), .im (bK y1), .un, .un, .un, .un, .un, .un, .un]) (Kh (x_call (ds:=[.fz (List.map D.int aY)]) (aj (aN rfl) aQ) (Mg aeN)) rfl yr rfl) ?_
 refine sq (s:=[.im (.fz (List.map D.int aY)), .im (bK y1), .ow false (.lst .im) (.lst [.int 0]), .un, .un, .un, .un, .un, .un]) (acv (pF (ds:=[.int 0]) (aj gq aQ) rfl (by decide)) rfl yr rfl) ?_
 obtain ⟨n2,aeO,h⟩:=bs h
 refine sq (s:=[.im (.fz (List.map D.int aY)), .im (bK y1), .ow false (.lst .im) (.lst [.int n2.2]), .im (.int (n2.1 - 9)), .un, .un, .un, .un, .un]) (Kh (pD (Y6 (aj (aN rfl) (aj (VB rfl) (aj gq aQ))) rfl rfl rfl (Qu aeO) rfl) gq rfl rfl acz) rfl yr rfl) ?_
 obtain ⟨n3,aeP,h⟩:=bs h
 obtain ⟨t4,aeQ,h⟩:=bs h
 refine sq (s:=[.im (.fz (List.map D.int aY)), .im (bK y1), .ow false (.lst .im) (.lst [.int n3.2]), .im (.int (n2.1 - 9)), .im (t4), .un, .un, .un, .un]) (Kh (pD (pF (aj gq (aj (adl (aN rfl)) (aj gq (aj (Ko (aj (aN rfl) (aj gq aQ)) rfl (show 2≤sizeLine by decide)) (aj gq aQ))))) rfl (show 5≤sizeLine by decide)) (Y6 (aj (aN rfl) (aj (VB rfl) (aj gq aQ))) rfl rfl rfl (Qu aeP) rfl) rfl rfl (Iu (e:=(fun (q:D)=>(q:D))) aeQ)) rfl yr rfl) ?_
 obtain ⟨o8,aeR,h⟩:=bs h
 have acL:=Ir (n:=FUEL) (g:=(iZ 5)) (B:=Qv) (R:=(fun (d:D) (x:D)=>d=x)) (body:=(fun (x6:D) (s5:Unit)=>
   Option.bind (qI ["BadValue","BadText","BadPaper"] "at" x6) fun x10=>
   Option.bind (bZ x10 (.int (n2.1 - 9))) fun y11=>
   if (!y11)=true then
    some (.rt false)
   else
    some (.nx ()))) (sE:=[.im (.fz (List.map D.int aY))]) (er:=fun (q0:Bool) => .bl q0) (ea:=fun (q0:Bool)=>[.im (.fz (List.map D.int aY))]) (P:=fun (s5:Unit) ss=>∃ z7:SD,Fr z7/\ss=[.im (.fz (List.map D.int aY)), .im (bK y1), .ow false (.lst .im) (.lst [.int n3.2]), .im (.int (n2.1 - 9)), .im (t4),z7, .un, .un, .un]) (ss:=[.im (.fz (List.map D.int aY)), .im (bK y1), .ow false (.lst .im) (.lst [.int n3.2]), .im (.int (n2.1 - 9)), .im (t4), .un, .un, .un, .un]) (by
  intro x6 s5 dx _ r0 hx
  rintro ⟨z7,aeS,rfl⟩ h
  subst hx
  refine ⟨_,(CQ rfl aeS),?_⟩
  unfold Qv
  obtain ⟨x10,aae,h⟩:=bs h
  obtain ⟨y11,aaf,h⟩:=bs h
  by_cases c12:(!y11)=true
  ·rw [if_pos c12] at h
   refine Qs (rD (x_call (ds:=[x10,(.int (n2.1 - 9))]) (aj (Az (aN rfl) aae) (aj (aN rfl) aQ)) (lA aaf))) c12 ?_
   refine Ae (s_ret gq) ?_
   cases h
   exact ⟨_,rfl,rfl⟩
  ·rw [if_neg c12] at h
   refine Qt (rD (x_call (ds:=[x10,(.int (n2.1 - 9))]) (aj (Az (aN rfl) aae) (aj (aN rfl) aQ)) (lA aaf))) c12 ?_
   refine ls rfl ?_
   cases h
   exact ⟨_, .inl rfl,⟨_,Kg,rfl⟩⟩
  ) (vC _ [(.ob "BadValue" ["at"] [.int (n2.1 - 9)]:D),(.ob "BadText" ["at"] [.int (n2.1 - 9)]:D),(.ob "BadPaper" ["at"] [.int (n2.1 - 9)]:D),(.ob "BadValue" ["at"] [.int (n2.1 - 9)]:D),(.ob "BadText" ["at"] [.int (n2.1 - 9)]:D),(.ob "BadPaper" ["at"] [.int (n2.1 - 9)]:D)]) ⟨_,yr,rfl⟩ aeR
 cases o8 with
 | bk _=>cases h
 | rt q79=>
  obtain ⟨_,VJ,adq⟩:=acL
  cases h
  refine Ip ((vO (Af (pF (aj (fu (aj (aN rfl) aQ) rfl) (aj (fu (aj (aN rfl) aQ) rfl) (aj (fu (aj (aN rfl) aQ) rfl) (aj (fu (aj (aN rfl) aQ) rfl) (aj (fu (aj (aN rfl) aQ) rfl) (aj (fu (aj (aN rfl) aQ) rfl) aQ)))))) rfl (show 6≤sizeLine by decide)) GD) VJ)) ?_
  exact ⟨_, .inl rfl,adq⟩
 | nx s13=>
  obtain ⟨_,VJ,z14,adt,rfl⟩:=acL
  refine sq ((vO (Af (pF (aj (fu (aj (aN rfl) aQ) rfl) (aj (fu (aj (aN rfl) aQ) rfl) (aj (fu (aj (aN rfl) aQ) rfl) (aj (fu (aj (aN rfl) aQ) rfl) (aj (fu (aj (aN rfl) aQ) rfl) (aj (fu (aj (aN rfl) aQ) rfl) aQ)))))) rfl (show 6≤sizeLine by decide)) GD) VJ)) ?_
  obtain ⟨o18,adu,h⟩:=bs h
  have aag:=Ir (n:=FUEL) (g:=(iZ 5)) (B:=Qw) (R:=(fun (d:D) (x:D)=>d=x)) (body:=(fun (Z7:D) (s15:Unit)=>
    Option.bind (qI ["NotMeant","Mixed"] "text" Z7) fun x20=>
    Option.bind (bZ x20 t4) fun Xu=>
    if (!Xu)=true then
     some (.rt false)
    else
     some (.nx ()))) (sE:=[.im (.fz (List.map D.int aY))]) (er:=fun (q0:Bool) => .bl q0) (ea:=fun (q0:Bool)=>[.im (.fz (List.map D.int aY))]) (P:=fun (s15:Unit) ss=>∃ z17:SD,Fr z17/\ss=[.im (.fz (List.map D.int aY)), .im (bK y1), .ow false (.lst .im) (.lst [.int n3.2]), .im (.int (n2.1 - 9)), .im (t4),z17, .un, .un, .un]) (ss:=[.im (.fz (List.map D.int aY)), .im (bK y1), .ow false (.lst .im) (.lst [.int n3.2]), .im (.int (n2.1 - 9)), .im (t4),z14, .un, .un, .un]) (by
   intro Z7 s15 dx _ r0 hx
   rintro ⟨z17,adw,rfl⟩ h
   subst hx
   refine ⟨_,(CQ rfl adw),?_⟩
   unfold Qw
   obtain ⟨x20,aah,h⟩:=bs h
   obtain ⟨Xu,aai,h⟩:=bs h
   by_cases c22:(!Xu)=true
   ·rw [if_pos c22] at h
    refine Qs (rD (x_call (ds:=[x20,t4]) (aj (Az (aN rfl) aah) (aj (aN rfl) aQ)) (lA aai))) c22 ?_
    refine Ae (s_ret gq) ?_
    cases h
    exact ⟨_,rfl,rfl⟩
   ·rw [if_neg c22] at h
    refine Qt (rD (x_call (ds:=[x20,t4]) (aj (Az (aN rfl) aah) (aj (aN rfl) aQ)) (lA aai))) c22 ?_
    refine ls rfl ?_
    cases h
    exact ⟨_, .inl rfl,⟨_,Kg,rfl⟩⟩
   ) (vC _ [(.ob "NotMeant" ["text"] [t4]:D),(.ob "NotMeant" ["text"] [t4]:D)]) ⟨_,adt,rfl⟩ adu
  cases o18 with
  | bk _=>cases h
  | rt q78=>
   obtain ⟨_,QJ,acN⟩:=aag
   cases h
   refine Ip ((vO (Af (pF (aj (fu (aj (aN rfl) aQ) rfl) (aj (fu (aj (aN rfl) aQ) rfl) aQ)) rfl (show 2≤sizeLine by decide)) GD) QJ)) ?_
   exact ⟨_, .inl rfl,acN⟩
  | nx s23=>
   obtain ⟨_,QJ,z24,adx,rfl⟩:=aag
   refine sq ((vO (Af (pF (aj (fu (aj (aN rfl) aQ) rfl) (aj (fu (aj (aN rfl) aQ) rfl) aQ)) rfl (show 2≤sizeLine by decide)) GD) QJ)) ?_
   obtain ⟨o28,ady,h⟩:=bs h
   have aak:=Ir (n:=FUEL) (g:=(iZ 5)) (B:=Qx) (R:=(fun (d:D) (x:D)=>d=x)) (body:=(fun (x26:D) (s25:Unit)=>
     Option.bind (qI ["NoWord","Mixed"] "word" x26) fun x30=>
     Option.bind (bZ x30 t4) fun Xv=>
     if (!Xv)=true then
      some (.rt false)
     else
      some (.nx ()))) (sE:=[.im (.fz (List.map D.int aY))]) (er:=fun (q0:Bool) => .bl q0) (ea:=fun (q0:Bool)=>[.im (.fz (List.map D.int aY))]) (P:=fun (s25:Unit) ss=>∃ z27:SD,Fr z27/\ss=[.im (.fz (List.map D.int aY)), .im (bK y1), .ow false (.lst .im) (.lst [.int n3.2]), .im (.int (n2.1 - 9)), .im (t4),z27, .un, .un, .un]) (ss:=[.im (.fz (List.map D.int aY)), .im (bK y1), .ow false (.lst .im) (.lst [.int n3.2]), .im (.int (n2.1 - 9)), .im (t4),z24, .un, .un, .un]) (by
    intro x26 s25 dx _ r0 hx
    rintro ⟨z27,adz,rfl⟩ h
    subst hx
    refine ⟨_,(CQ rfl adz),?_⟩
    unfold Qx
    obtain ⟨x30,aal,h⟩:=bs h
    obtain ⟨Xv,aam,h⟩:=bs h
    by_cases c32:(!Xv)=true
    ·rw [if_pos c32] at h
     refine Qs (rD (x_call (ds:=[x30,t4]) (aj (Az (aN rfl) aal) (aj (aN rfl) aQ)) (lA aam))) c32 ?_
     refine Ae (s_ret gq) ?_
     cases h
     exact ⟨_,rfl,rfl⟩
    ·rw [if_neg c32] at h
     refine Qt (rD (x_call (ds:=[x30,t4]) (aj (Az (aN rfl) aal) (aj (aN rfl) aQ)) (lA aam))) c32 ?_
     refine ls rfl ?_
     cases h
     exact ⟨_, .inl rfl,⟨_,Kg,rfl⟩⟩
    ) (vC _ [(.ob "NoWord" ["word"] [t4]:D),(.ob "NoWord" ["word"] [t4]:D)]) ⟨_,adx,rfl⟩ ady
   cases o28 with
   | bk _=>cases h
   | rt q77=>
    obtain ⟨_,QK,acP⟩:=aak
    cases h
    refine Ip ((vO (Af (pF (aj (fu (aj (aN rfl) aQ) rfl) (aj (fu (aj (aN rfl) aQ) rfl) aQ)) rfl (show 2≤sizeLine by decide)) GD) QK)) ?_
    exact ⟨_, .inl rfl,acP⟩
   | nx s33=>
    obtain ⟨_,QK,z34,adA,rfl⟩:=aak
    refine sq ((vO (Af (pF (aj (fu (aj (aN rfl) aQ) rfl) (aj (fu (aj (aN rfl) aQ) rfl) aQ)) rfl (show 2≤sizeLine by decide)) GD) QK)) ?_
    obtain ⟨o38,adB,h⟩:=bs h
    have aao:=Ir (n:=FUEL) (g:=(iZ 5)) (B:=Qy) (R:=(fun (d:D) (x:D)=>d=x)) (body:=(fun (x36:D) (Z8:Unit)=>
      Option.bind (qI ["NoWord","Mixed"] "word" x36) fun x40=>
      Option.bind (qI ["NotMeant","Mixed"] "text" x36) fun x41=>
      Option.bind (bZ (.tup [x40,x41]) (.tup [.str [97,98], .str [97]])) fun QC=>
      if (!QC)=true then
       some (.rt false)
      else
       some (.nx ()))) (sE:=[.im (.fz (List.map D.int aY))]) (er:=fun (q0:Bool) => .bl q0) (ea:=fun (q0:Bool)=>[.im (.fz (List.map D.int aY))]) (P:=fun (Z8:Unit) ss=>∃ z37:SD,Fr z37/\ss=[.im (.fz (List.map D.int aY)), .im (bK y1), .ow false (.lst .im) (.lst [.int n3.2]), .im (.int (n2.1 - 9)), .im (t4),z37, .un, .un, .un]) (ss:=[.im (.fz (List.map D.int aY)), .im (bK y1), .ow false (.lst .im) (.lst [.int n3.2]), .im (.int (n2.1 - 9)), .im (t4),z34, .un, .un, .un]) (by
     intro x36 Z8 dx _ r0 hx
     rintro ⟨z37,adC,rfl⟩ h
     subst hx
     refine ⟨_,(CQ rfl adC),?_⟩
     unfold Qy
     obtain ⟨x40,aap,h⟩:=bs h
     obtain ⟨x41,aaq,h⟩:=bs h
     obtain ⟨QC,aar,h⟩:=bs h
     by_cases c43:(!QC)=true
     ·rw [if_pos c43] at h
      refine Qs (rD (x_call (ds:=[(.tup [x40,x41]),(.tup [.str [97,98], .str [97]])]) (aj (Ko (aj (Az (aN rfl) aap) (aj (Az (aN rfl) aaq) aQ)) rfl (show 2≤sizeLine by decide)) (aj (Ko (aj gq (aj gq aQ)) rfl (show 2≤sizeLine by decide)) aQ)) (lA aar))) c43 ?_
      refine Ae (s_ret gq) ?_
      cases h
      exact ⟨_,rfl,rfl⟩
     ·rw [if_neg c43] at h
      refine Qt (rD (x_call (ds:=[(.tup [x40,x41]),(.tup [.str [97,98], .str [97]])]) (aj (Ko (aj (Az (aN rfl) aap) (aj (Az (aN rfl) aaq) aQ)) rfl (show 2≤sizeLine by decide)) (aj (Ko (aj gq (aj gq aQ)) rfl (show 2≤sizeLine by decide)) aQ)) (lA aar))) c43 ?_
      refine ls rfl ?_
      cases h
      exact ⟨_, .inl rfl,⟨_,Kg,rfl⟩⟩
     ) (vC _ [(.ob "Mixed" ["word","text"] [.str [97,98], .str [97]]:D),(.ob "Mixed" ["word","text"] [.str [97,98], .str [97]]:D)]) ⟨_,adA,rfl⟩ adB
    cases o38 with
    | bk _=>cases h
    | rt q76=>
     obtain ⟨_,QL,acR⟩:=aao
     cases h
     refine Ip ((vO (Af (pF (aj (fu (aj gq (aj gq aQ)) rfl) (aj (fu (aj gq (aj gq aQ)) rfl) aQ)) rfl (show 2≤sizeLine by decide)) GD) QL)) ?_
     exact ⟨_, .inl rfl,acR⟩
    | nx s44=>
     obtain ⟨_,QL,IW,agF,rfl⟩:=aao
     refine sq ((vO (Af (pF (aj (fu (aj gq (aj gq aQ)) rfl) (aj (fu (aj gq (aj gq aQ)) rfl) aQ)) rfl (show 2≤sizeLine by decide)) GD) QL)) ?_
     obtain ⟨dB,GJ,h⟩:=bs h
     have GJ:=Option.some.inj GJ
     refine sq (s:=[.im (.fz (List.map D.int aY)), .im (bK y1), .ow false (.lst .im) (.lst [.int n3.2]), .im (.int (n2.1 - 9)), .im (t4),IW, .im (.lst (List.map (fun (q:D)=>(q:D)) dB)), .un, .un]) (Kh (pF (aj (fu (aj (aN rfl) aQ) rfl) (aj (fu (aj (aN rfl) aQ) rfl) (aj (fu (aj (aN rfl) aQ) rfl) (aj (fu (aj (aN rfl) aQ) rfl) (aj (fu (aj (aN rfl) aQ) rfl) (aj (fu (aj gq (aj gq aQ)) rfl) (aj gq aQ))))))) rfl (show 7≤sizeLine by decide)) rfl yr (by rw [<- GJ]; rfl)) ?_
     obtain ⟨l47,aat,h⟩:=bs h
     obtain ⟨o51,adD,h⟩:=bs h
     have aau:=Ir (n:=FUEL) (g:=(iZ 7)) (B:=Qz) (R:=(fun (d:D) (x:Int)=>d = .int x)) (body:=(fun (x49:Int) (Z9:Unit)=>
       Option.bind (atI dB x49) fun Np=>
       Option.bind (gG Np) fun Vb=>
       Option.bind (wL 0 7) fun QD=>
       Option.bind (Mf (QD.map (fun (x56:Int)=>(decide (x56=x49))))) fun Vc=>
       Option.bind (Xo Fx (.lst (List.map D.bl Vb):D) (.lst (List.map D.bl Vc):D)) fun QF=>
       Option.bind (if QF=true then
         some (true)
       else
         Option.bind (atI dB x49) fun Nq=>
         Option.bind (cI Nq) fun QG=>
         Option.bind (if QG=true then
           some (true)
         else
           Option.bind (atI dB x49) fun Vd=>
           Option.bind (xT [("BadValue",true),("BadText",true),("BadPaper",true),("NotMeant",true),("NoWord",true),("Mixed",true),("TooMany",true)] Vd) fun Ve=>
           some ((!Ve))) fun (QH:Bool)=>
         some (QH)) fun (Nr:Bool)=>
       if Nr=true then
        some (.rt false)
       else
        some (.nx ()))) (sE:=[.im (.fz (List.map D.int aY))]) (er:=fun (q0:Bool) => .bl q0) (ea:=fun (q0:Bool)=>[.im (.fz (List.map D.int aY))]) (P:=fun (Z9:Unit) ss=>∃ z50:SD,Fr z50/\ss=[.im (.fz (List.map D.int aY)), .im (bK y1), .ow false (.lst .im) (.lst [.int n3.2]), .im (.int (n2.1 - 9)), .im (t4),IW, .im (.lst (List.map (fun (q:D)=>(q:D)) dB)),z50, .un]) (ss:=[.im (.fz (List.map D.int aY)), .im (bK y1), .ow false (.lst .im) (.lst [.int n3.2]), .im (.int (n2.1 - 9)), .im (t4),IW, .im (.lst (List.map (fun (q:D)=>(q:D)) dB)), .un, .un]) (by
      intro x49 Z9 dx _ r0 hx
      rintro ⟨z50,adE,rfl⟩ h
      subst hx
      refine ⟨_,(CQ rfl adE),?_⟩
      unfold Qz
      obtain ⟨Np,aav,h⟩:=bs h
      obtain ⟨Vb,aaw,h⟩:=bs h
      obtain ⟨QD,aax,h⟩:=bs h
      obtain ⟨Vc,aay,h⟩:=bs h
      have VL:=acw (g:=(iZ 8)) (C:=Vn) (E:=(aD tH (ak 8) (ak 7))) (vs:=[8]) (w:=[.im (.fz (List.map D.int aY)), .im (bK y1), .ow false (.lst .im) (.lst [.int n3.2]), .im (.int (n2.1 - 9)), .im (t4),IW, .im (.lst (List.map (fun (q:D)=>(q:D)) dB)), .im (.int x49), .un]) (R:=(fun (d:D) (x:Int)=>d = .int x)) (ey:=D.bl) (fun _=>true) (fun (x56:Int)=>(decide (x56=x49))) (by
       intro x56 dx hx
       subst hx
       exact ⟨_,(CQ rfl yr),rfl,(pD (aN rfl) (aN rfl) rfl rfl Z4),rfl⟩) (vC _ QD)
      rw [Y9] at VL
      obtain ⟨QF,aaz,h⟩:=bs h
      obtain ⟨Nr,adF,h⟩:=bs h
      have aaA:((oA (aD Fx (aCall lB [(aD gJ (ak 6) (ak 7))]) (zQ (wG yM [(aC (.int 7))]) (iZ 8) Vn (aD tH (ak 8) (ak 7)) [8])) (oA (aCall dZ [(aD gJ (ak 6) (ak 7))]) (jw (nZ [("BadValue",true),("BadText",true),("BadPaper",true),("NotMeant",true),("NoWord",true),("Mixed",true),("TooMany",true)] (aD gJ (ak 6) (ak 7))))))) [.im (.fz (List.map D.int aY)), .im (bK y1), .ow false (.lst .im) (.lst [.int n3.2]), .im (.int (n2.1 - 9)), .im (t4),IW, .im (.lst (List.map (fun (q:D)=>(q:D)) dB)), .im (.int x49), .un] = .val (.im (.bl Nr)) [.im (.fz (List.map D.int aY)), .im (bK y1), .ow false (.lst .im) (.lst [.int n3.2]), .im (.int (n2.1 - 9)), .im (t4),IW, .im (.lst (List.map (fun (q:D)=>(q:D)) dB)), .im (.int x49), .un]:=by
       clear h
       have h:=adF
       by_cases c66:QF=true
       ·rw [if_pos c66] at h
        cases h
        exact Kl (pD (x_call (ds:=[Np]) (aj (pD (aN rfl) (aN rfl) rfl rfl (Iu (e:=(fun (q:D)=>(q:D))) aav)) aQ) (Nm aaw)) (Z5 (VD (aj gq aQ) rfl (Kr aax)) VL aay rfl) rfl rfl (Xp aaz)) c66
       ·rw [if_neg c66] at h
        obtain ⟨Nq,aaC,h⟩:=bs h
        obtain ⟨QG,aaD,h⟩:=bs h
        obtain ⟨QH,adG,h⟩:=bs h
        have adH:((oA (aCall dZ [(aD gJ (ak 6) (ak 7))]) (jw (nZ [("BadValue",true),("BadText",true),("BadPaper",true),("NotMeant",true),("NoWord",true),("Mixed",true),("TooMany",true)] (aD gJ (ak 6) (ak 7)))))) [.im (.fz (List.map D.int aY)), .im (bK y1), .ow false (.lst .im) (.lst [.int n3.2]), .im (.int (n2.1 - 9)), .im (t4),IW, .im (.lst (List.map (fun (q:D)=>(q:D)) dB)), .im (.int x49), .un] = .val (.im (.bl QH)) [.im (.fz (List.map D.int aY)), .im (bK y1), .ow false (.lst .im) (.lst [.int n3.2]), .im (.int (n2.1 - 9)), .im (t4),IW, .im (.lst (List.map (fun (q:D)=>(q:D)) dB)), .im (.int x49), .un]:=by
         clear h
         have h:=adG
         by_cases c64:QG=true
         ·rw [if_pos c64] at h
          cases h
          exact Kl (x_call (ds:=[Nq]) (aj (pD (aN rfl) (aN rfl) rfl rfl (Iu (e:=(fun (q:D)=>(q:D))) aaC)) aQ) (CV aaD)) c64
         ·rw [if_neg c64] at h
          obtain ⟨Vd,adI,h⟩:=bs h
          obtain ⟨Ve,adJ,h⟩:=bs h
          cases h
          exact Km (x_call (ds:=[Nq]) (aj (pD (aN rfl) (aN rfl) rfl rfl (Iu (e:=(fun (q:D)=>(q:D))) aaC)) aQ) (CV aaD)) c64 (rD (tX (pD (aN rfl) (aN rfl) rfl rfl (Iu (e:=(fun (q:D)=>(q:D))) adI)) adJ))
        cases h
        exact Km (pD (x_call (ds:=[Np]) (aj (pD (aN rfl) (aN rfl) rfl rfl (Iu (e:=(fun (q:D)=>(q:D))) aav)) aQ) (Nm aaw)) (Z5 (VD (aj gq aQ) rfl (Kr aax)) VL aay rfl) rfl rfl (Xp aaz)) c66 adH
      by_cases c67:Nr=true
      ·rw [if_pos c67] at h
       refine Qs aaA c67 ?_
       refine Ae (s_ret gq) ?_
       cases h
       exact ⟨_,rfl,rfl⟩
      ·rw [if_neg c67] at h
       refine Qt aaA c67 ?_
       refine ls rfl ?_
       cases h
       exact ⟨_, .inl rfl,⟨_,Kg,rfl⟩⟩
      ) (vC _ l47) ⟨_,yr,rfl⟩ adD
     cases o51 with
     | bk _=>cases h
     | rt q75=>
      obtain ⟨_,QM,acT⟩:=aau
      cases h
      refine Ip ((vO (VD (aj gq aQ) rfl (Kr aat)) QM)) ?_
      exact ⟨_, .inl rfl,acT⟩
     | nx s68=>
      obtain ⟨_,QM,z69,agG,rfl⟩:=aau
      refine sq ((vO (VD (aj gq aQ) rfl (Kr aat)) QM)) ?_
      obtain ⟨y70,aaG,h⟩:=bs h
      obtain ⟨v73,adK,h⟩:=bs h
      have adL:((u9 (jw (aCall dh [(aC (.int 0))])) (aCall dh [(aD iV (aC (.int 1)) (mO 1 fB [(ak 1),(ak 2),(aC (.int 9))]))]))) [.im (.fz (List.map D.int aY)), .im (bK y1), .ow false (.lst .im) (.lst [.int n3.2]), .im (.int (n2.1 - 9)), .im (t4),IW, .im (.lst (List.map (fun (q:D)=>(q:D)) dB)),z69, .un] = .val (.im (.bl v73.1)) [.im (.fz (List.map D.int aY)), .im (bK y1), .ow false (.lst .im) (.lst [.int v73.2]), .im (.int (n2.1 - 9)), .im (t4),IW, .im (.lst (List.map (fun (q:D)=>(q:D)) dB)),z69, .un]:=by
       clear h
       have h:=adK
       by_cases c74:(!y70)=true
       ·rw [if_pos c74] at h
        obtain ⟨n71,adM,h⟩:=bs h
        obtain ⟨y72,adN,h⟩:=bs h
        cases h
        exact abp (rD (x_call (ds:=[.int 0]) (aj gq aQ) (xP aaG))) c74 (x_call (ds:=[.int (1+n71.1)]) (aj (pD gq (Y6 (aj (aN rfl) (aj (VB rfl) (aj gq aQ))) rfl rfl rfl (Qu adM) rfl) rfl rfl acy) aQ) (xP adN))
       ·rw [if_neg c74] at h
        cases h
        exact abq (rD (x_call (ds:=[.int 0]) (aj gq aQ) (xP aaG))) c74
      refine Ae (s_ret adL) ?_
      cases h
      exact ⟨_, .inl rfl,rfl⟩
end Va
namespace TY
open PySem PySem.Spec PyProof.Rows L2 DL SW
section
variable {ν ε β:Type} [DecidableEq ν] (src:ν) (Ed:ν->ε->Prop) (tgt:ν->ε->ν) (cost:ε->Int)
inductive Way:ν->Int->Prop
 | nil:Way src 0
 | step {u:ν} {c:Int} {e:ε}:Way u c->Ed u e->Way (tgt u e) (c+cost e)
def Zd (D:ν->ε->Prop) (v:ν) (c:Int):Prop:=(v=src/\c=0)\/∃ u cu e,D u e/\Way src Ed tgt cost u cu/\Ed u e/\v=tgt u e/\c=cu+cost e
variable {src Ed tgt cost}
theorem Zd.mono {D D':ν->ε->Prop} {v:ν} {c:Int} (h:Zd src Ed tgt cost D v c) (m:∀ u e c,Way src Ed tgt cost u c->Ed u e->D u e->D' u e):Zd src Ed tgt cost D' v c:=by
 rcases h with h | ⟨u,cu,e,hd,hw,he,e1,e2⟩
 ·exact .inl h
 ·exact .inr ⟨u,cu,e,m u e cu hw he hd,hw,he,e1,e2⟩
end
end TY
namespace oN
open PySem PySem.Spec PyProof.Rows L2 DL SW TY
end oN
namespace oN
open PySem PySem.Spec PyProof.Rows L2 DL SW TY
theorem bE {α β:Type} {o:Option α} {k:α->Option β} {Q:α->Prop} {R:β->Prop} (h:∃ r,o=some r/\Q r) (hk:∀ r,Q r->∃ z,k r=some z/\R z):∃ z,o.bind k=some z/\R z:=by
 obtain ⟨r,rfl,hq⟩:=h
 exact hk r hq
theorem bS {α β:Type} {o:Option α} {k:α->Option β} {v:α} {R:β->Prop} (h:o=some v) (hk:∃ z,k v=some z/\R z):∃ z,o.bind k=some z/\R z:=by
 subst h; exact hk
theorem iT {α:Type} {c:Bool} {a b:Option α} {R:α->Prop} (h:c=true) (k:∃ z,a=some z/\R z):∃ z,(if c=true then a else b)=some z/\R z:=by rw [if_pos h]; exact k
theorem eS {α:Type} {v:α} {R:α->Prop} (h:R v):∃ z,some v=some z/\R z:=⟨v,rfl,h⟩
def Ed (t:List Fault) (w x:Txt) (v:Int×Int) (p:Fault):Prop:=∃ i j:Nat,v=((i:Int),(j:Int))/\i≤w.length/\j≤x.length /\
 ((p∈t/\(w.drop i).take p.1.length=p.1/\(x.drop j).take p.2.1.length=p.2.1)\/∃ c,w[i]? = some c/\x[j]? = some c/\p=([c],[c],0))
abbrev tg (v:Int×Int) (p:Fault):Int×Int:=(v.1+(p.1.length:Int),v.2+(p.2.1.length:Int))
abbrev co (p:Fault):Int:=p.2.2
abbrev Cut (t:List Fault) (w x:Txt):Int×Int->Int->Prop:=Way ((0:Int),(0:Int)) (Ed t w x) tg co
structure aeT (t:List Fault):Prop where
 few:t.length≤8
 two:∀ p∈t,p.1.length≤2/\p.2.1.length≤2
 ne:∀ p∈t,p.1 ≠ p.2.1
 pr:∀ p∈t,1≤p.2.2/\p.2.2≤9
section
variable {t:List Fault} {w x:Txt}
theorem Cut.pos (ht:aeT t) {v:Int×Int} {c:Int} (h:Cut t w x v c):0≤c:=by
 induction h with
 | nil=>exact Int.le_refl 0
 | @step u c' p hw he ih=>
  obtain ⟨i,j,rfl,hi,hj,h⟩:=he
  rcases h with ⟨hp,_,_⟩ | ⟨c,_,_,rfl⟩
  ·have:=(ht.pr p hp).1
   show 0≤c'+p.2.2
   omega
  ·show 0≤c'+0
   omega
end
def Mj (t:List Fault) (w x:Txt):Option Int->Prop
 | none=>∀ c,¬ Cut t w x ((w.length:Int),(x.length:Int)) c
 | some c=>Cut t w x ((w.length:Int),(x.length:Int)) c/\∀ c',Cut t w x ((w.length:Int),(x.length:Int)) c'->c≤c'
theorem Mj.one {t:List Fault} {w x:Txt} {a b:Option Int} (h:Mj t w x a) (k:Mj t w x b):a=b:=by
 cases a with
 | none=>cases b with
  | none=>rfl
  | some d=>exact absurd k.1 (h d)
 | some c=>cases b with
  | none=>exact absurd h.1 (k c)
  | some d=>
   have h1:=h.2 d k.1
   have h2:=k.2 c h.1
   rw [show c=d by omega]
end oN
namespace oN
open PySem PySem.Spec PyProof.Rows L2 DL SW TY
abbrev Bst:=List ((Int×Int)×(Int×Option Fault))
def Linked (t:List Fault) (w x:Txt) (D:Int×Int->Fault->Prop) (best:Bst):Prop:=∀ v b,VF best v=some b->(v=((0:Int),(0:Int))/\b=(0,none)) \/
 ∃ u bu p,D u p/\b.2=some p/\Ed t w x u p/\v=tg u p/\VF best u=some bu/\b.1=bu.1+p.2.2
theorem Linked.mono {t:List Fault} {w x:Txt} {D D':Int×Int->Fault->Prop} {best:Bst} (h:Linked t w x D best) (m:∀ u e,D u e->D' u e):Linked t w x D' best:=fun v b hb=>by
 rcases h v b hb with k | ⟨u,bu,p,k1,k2⟩
 ·exact .inl k
 ·exact .inr ⟨u,bu,p,m _ _ k1,k2⟩
end oN
namespace oN
open PySem PySem.Spec PyProof.Rows L2 DL SW TY
end oN
namespace oN
open PySem PySem.Spec PyProof.Rows L2 DL SW TY
def joinM (ps:List Fault):Txt:=ps.flatMap (·.1)
def tY (ps:List Fault):Txt:=ps.flatMap (·.2.1)
def yV (ps:List Fault):Int:=(ps.map (·.2.2)).sum
end oN
namespace oN
open PySem PySem.Spec PyProof.Rows L2 DL SW TY oN
end oN
namespace oN
open PySem PySem.Spec PyProof.Rows L2 DL SW TY
def Piece (t:List Fault) (p:Fault):Prop:=p∈t\/∃ l,p=([l],[l],0)
def aeU (t:List Fault) (w x:Txt) (c:Int):Prop:=∃ ps:List Fault,joinM ps=w/\tY ps=x/\yV ps=c/\∀ p∈ps,Piece t p
theorem Ze {a b:List Fault}:joinM (a++b)=joinM a++joinM b/\tY (a++b)=tY a++tY b/\yV (a++b)=yV a+yV b:=by
 unfold joinM tY yV
 simp
theorem join_cons {a:Fault} {b:List Fault}:joinM (a :: b)=a.1++joinM b/\tY (a :: b)=a.2.1++tY b/\yV (a :: b)=a.2.2+yV b:=by
 unfold joinM tY yV
 simp
def Le (t:List Fault) (w x:Txt) (c:Int):Prop:=∃ c',aeU t w x c'/\c'≤c
theorem Le.one {t:List Fault} {p:Fault} (h:p∈t):Le t p.1 p.2.1 p.2.2:=
 ⟨p.2.2,⟨[p],by simp [joinM],by simp [tY],by simp [yV],fun q hq=>by rw [List.mem_singleton] at hq; subst hq; exact .inl h⟩,Int.le_refl _⟩
theorem Le.kept {t:List Fault} (l:Nat):Le t [l] [l] 0:=
 ⟨0,⟨[([l],[l],0)],by simp [joinM],by simp [tY],by simp [yV],fun q hq=>by rw [List.mem_singleton] at hq; subst hq; exact .inr ⟨l,rfl⟩⟩,Int.le_refl _⟩
theorem Le.app {t:List Fault} {w x w' x':Txt} {c c':Int} (h:Le t w x c) (k:Le t w' x' c'):Le t (w++w') (x++x') (c+c'):=by
 obtain ⟨a,⟨ps,h1,h2,h3,h4⟩,h5⟩:=h
 obtain ⟨b,⟨qs,k1,k2,k3,k4⟩,k5⟩:=k
 obtain ⟨e1,e2,e3⟩:=Ze (a:=ps) (b:=qs)
 refine ⟨a+b,⟨ps++qs,by rw [e1,h1,k1],by rw [e2,h2,k2],by rw [e3,h3,k3],fun p hp=>?_⟩,by omega⟩
 rcases List.mem_append.mp hp with z | z
 ·exact h4 p z
 ·exact k4 p z
theorem Le.nil {t:List Fault}:Le t [] [] 0:=⟨0,⟨[],rfl,rfl,rfl,fun p hp=>absurd hp List.not_mem_nil⟩,Int.le_refl _⟩
theorem Le.all {t:List Fault}:∀ {ps:List Fault},(∀ p∈ps,Le t p.1 p.2.1 p.2.2)->Le t (joinM ps) (tY ps) (yV ps)
 | [],_ => .nil
 | p :: ps,h=>by
  obtain ⟨a1,a2,a3⟩:=join_cons (a:=p) (b:=ps)
  rw [a1,a2,a3]
  exact (h p List.mem_cons_self).app (Le.all fun q hq=>h q (List.mem_cons_of_mem _ hq))
theorem Le.mono {t:List Fault} {w x:Txt} {c d:Int} (h:Le t w x c) (k:c≤d):Le t w x d:=by
 obtain ⟨a,h1,h2⟩:=h
 exact ⟨a,h1,by omega⟩
end oN
namespace oN
open PySem PySem.Spec PyProof.Rows L2 DL SW TY
end oN
namespace oN
open PySem PySem.Spec PyProof.Rows L2 DL SW TY
theorem acU {α:Type} {l:List α} {i:Int} (h0:0≤i) (h1:i < l.length):∃ z,atI l i=some z/\z∈l:=by
 have hi:i.toNat < l.length:=by omega
 refine ⟨l[i.toNat],?_,List.getElem_mem hi⟩
 have:=atI_nat (xs:=l) (j:=i.toNat) (List.getElem?_eq_getElem hi)
 rwa [show ((i.toNat:Nat):Int)=i by omega] at this
abbrev Held:=List ((Txt×Txt)×Int)
def rowOf (m:Held) (k:Txt×Txt):Fault:=(k.1,k.2,(VF m k).getD 0)
end oN
namespace Va
open PySem PySem.Spec PyProof.Rows L2 DL SW TY oN
def Small (d:D):Prop:=frz d=d/\jH d=true/\D.dep d≤2
theorem Ml {d:D} (h:Small d):bZ d d=some true:=abv h.1 h.2.1 (Nat.lt_of_le_of_lt h.2.2 (by decide))
theorem Xw {i:Int} (h1 : -(2 ^ 62)≤i) (h2:i < 2 ^ 62):Small (.int i):=⟨rfl,rfl,Nat.zero_le _⟩
theorem five {a:Int} (h1 : -9≤a) (h2:a < 1000) {d:D} (h:d∈[(.non:D),(.int (-a):D),(.str [120]:D),(.tup [.int a, .int 2]:D),(.bl true:D)]):Small d:=by
 simp only [List.mem_cons,List.not_mem_nil,or_false] at h
 rcases h with h | h | h | h | h <;> (rw [h]; exact ⟨rfl,rfl,by first | exact Nat.zero_le _ | (show 1≤2; decide)⟩)
theorem loop1 {d:D} (hd:bZ d d=some true) (cs:List Str) (at_:Str):∀ (xs:List D),(∀ x∈xs,qI cs at_ x=some d)->eO (fun (x6:D) (s5:Unit)=>
   Option.bind (qI cs at_ x6) fun x10=>
   Option.bind (bZ x10 d) fun y11=>
   if (!y11)=true then
    some (.rt false)
   else
    some (.nx ())) xs ()=some (.nx ():Oc Bool Unit)
 | [],_=>rfl
 | x :: xs,h=>by
  unfold eO
  rw [h x List.mem_cons_self]
  show Option.bind (Option.bind (bZ d d) _) _=_
  rw [hd]
  exact loop1 hd cs at_ xs fun y hy=>h y (List.mem_cons_of_mem _ hy)
theorem Ka {a b:D} (hd:bZ (.tup [a,b]) (.tup [a,b])=some true) (c1 c2:List Str) (t1 t2:Str):∀ (xs:List D),(∀ x∈xs,qI c1 t1 x=some a/\qI c2 t2 x=some b)->eO (fun (x36:D) (Z8:Unit)=>
      Option.bind (qI c1 t1 x36) fun x40=>
      Option.bind (qI c2 t2 x36) fun x41=>
      Option.bind (bZ (.tup [x40,x41]) (.tup [a,b])) fun QC=>
      if (!QC)=true then
       some (.rt false)
      else
       some (.nx ())) xs ()=some (.nx ():Oc Bool Unit)
 | [],_=>rfl
 | x :: xs,h=>by
  unfold eO
  rw [(h x List.mem_cons_self).1]
  show Option.bind (Option.bind (qI c2 t2 x) _) _=_
  rw [(h x List.mem_cons_self).2]
  show Option.bind (Option.bind (bZ (.tup [a,b]) (.tup [a,b])) _) _=_
  rw [hd]
  exact Ka hd c1 c2 t1 t2 xs fun y hy=>h y (List.mem_cons_of_mem _ hy)
theorem bn {α β:Type} {o:Option α} {v:α} {k:α->Option β} {r:Option β} (h:o=some v) (hk:k v=r):o.bind k=r:=by subst h; exact hk
theorem Nt:wL 0 7=some [0,1,2,3,4,5,6]:=rfl
def bd (dB:List D):Int->Unit->Option (Oc Bool Unit):=(fun (x49:Int) (Z9:Unit)=>
       Option.bind (atI dB x49) fun Np=>
       Option.bind (gG Np) fun Vb=>
       Option.bind (wL 0 7) fun QD=>
       Option.bind (Mf (QD.map (fun (x56:Int)=>(decide (x56=x49))))) fun Vc=>
       Option.bind (Xo Fx (.lst (List.map D.bl Vb):D) (.lst (List.map D.bl Vc):D)) fun QF=>
       Option.bind (if QF=true then
         some (true)
       else
         Option.bind (atI dB x49) fun Nq=>
         Option.bind (cI Nq) fun QG=>
         Option.bind (if QG=true then
           some (true)
         else
           Option.bind (atI dB x49) fun Vd=>
           Option.bind (xT [("BadValue",true),("BadText",true),("BadPaper",true),("NotMeant",true),("NoWord",true),("Mixed",true),("TooMany",true)] Vd) fun Ve=>
           some ((!Ve))) fun (QH:Bool)=>
         some (QH)) fun (Nr:Bool)=>
       if Nr=true then
        some (.rt false)
       else
        some (.nx ()))
theorem of0 (fs:List Str) (l:List D):gG (.ob "BadValue" fs l)=some [true,false,false,false,false,false,false]:=rfl
theorem fo0 (fs:List Str) (l:List D):cI (.ob "BadValue" fs l)=some false:=rfl
theorem bd0 (ev:List D) (fs:List Str) (l:List D) (h:atI ev 0=some (.ob "BadValue" fs l)):bd ev 0 ()=some (.nx ()):=by
 unfold bd
 refine bn h ?_
 refine bn (of0 fs l) (bn Nt (bn (v:=[true,false,false,false,false,false,false]) rfl (bn (v:=false) rfl ?_)))
 rw [if_neg (show ¬ (false=true) from Bool.noConfusion)]
 refine bn (v:=false) (bn h (bn (fo0 fs l) ?_)) rfl
 rw [if_neg (show ¬ (false=true) from Bool.noConfusion)]
 exact bn (v:=false) (bn h (bn (v:=true) rfl rfl)) rfl
theorem of1 (fs:List Str) (l:List D):gG (.ob "BadText" fs l)=some [false,true,false,false,false,false,false]:=rfl
theorem fo1 (fs:List Str) (l:List D):cI (.ob "BadText" fs l)=some false:=rfl
theorem bd1 (ev:List D) (fs:List Str) (l:List D) (h:atI ev 1=some (.ob "BadText" fs l)):bd ev 1 ()=some (.nx ()):=by
 unfold bd
 refine bn h ?_
 refine bn (of1 fs l) (bn Nt (bn (v:=[false,true,false,false,false,false,false]) rfl (bn (v:=false) rfl ?_)))
 rw [if_neg (show ¬ (false=true) from Bool.noConfusion)]
 refine bn (v:=false) (bn h (bn (fo1 fs l) ?_)) rfl
 rw [if_neg (show ¬ (false=true) from Bool.noConfusion)]
 exact bn (v:=false) (bn h (bn (v:=true) rfl rfl)) rfl
theorem of2 (fs:List Str) (l:List D):gG (.ob "BadPaper" fs l)=some [false,false,true,false,false,false,false]:=rfl
theorem fo2 (fs:List Str) (l:List D):cI (.ob "BadPaper" fs l)=some false:=rfl
theorem bd2 (ev:List D) (fs:List Str) (l:List D) (h:atI ev 2=some (.ob "BadPaper" fs l)):bd ev 2 ()=some (.nx ()):=by
 unfold bd
 refine bn h ?_
 refine bn (of2 fs l) (bn Nt (bn (v:=[false,false,true,false,false,false,false]) rfl (bn (v:=false) rfl ?_)))
 rw [if_neg (show ¬ (false=true) from Bool.noConfusion)]
 refine bn (v:=false) (bn h (bn (fo2 fs l) ?_)) rfl
 rw [if_neg (show ¬ (false=true) from Bool.noConfusion)]
 exact bn (v:=false) (bn h (bn (v:=true) rfl rfl)) rfl
theorem WL (fs:List Str) (l:List D):gG (.ob "NotMeant" fs l)=some [false,false,false,true,false,false,false]:=rfl
theorem fo3 (fs:List Str) (l:List D):cI (.ob "NotMeant" fs l)=some false:=rfl
theorem bd3 (ev:List D) (fs:List Str) (l:List D) (h:atI ev 3=some (.ob "NotMeant" fs l)):bd ev 3 ()=some (.nx ()):=by
 unfold bd
 refine bn h ?_
 refine bn (WL fs l) (bn Nt (bn (v:=[false,false,false,true,false,false,false]) rfl (bn (v:=false) rfl ?_)))
 rw [if_neg (show ¬ (false=true) from Bool.noConfusion)]
 refine bn (v:=false) (bn h (bn (fo3 fs l) ?_)) rfl
 rw [if_neg (show ¬ (false=true) from Bool.noConfusion)]
 exact bn (v:=false) (bn h (bn (v:=true) rfl rfl)) rfl
theorem of4 (fs:List Str) (l:List D):gG (.ob "NoWord" fs l)=some [false,false,false,false,true,false,false]:=rfl
theorem fo4 (fs:List Str) (l:List D):cI (.ob "NoWord" fs l)=some false:=rfl
theorem bd4 (ev:List D) (fs:List Str) (l:List D) (h:atI ev 4=some (.ob "NoWord" fs l)):bd ev 4 ()=some (.nx ()):=by
 unfold bd
 refine bn h ?_
 refine bn (of4 fs l) (bn Nt (bn (v:=[false,false,false,false,true,false,false]) rfl (bn (v:=false) rfl ?_)))
 rw [if_neg (show ¬ (false=true) from Bool.noConfusion)]
 refine bn (v:=false) (bn h (bn (fo4 fs l) ?_)) rfl
 rw [if_neg (show ¬ (false=true) from Bool.noConfusion)]
 exact bn (v:=false) (bn h (bn (v:=true) rfl rfl)) rfl
theorem of5 (fs:List Str) (l:List D):gG (.ob "Mixed" fs l)=some [false,false,false,false,false,true,false]:=rfl
theorem fo5 (fs:List Str) (l:List D):cI (.ob "Mixed" fs l)=some false:=rfl
theorem bd5 (ev:List D) (fs:List Str) (l:List D) (h:atI ev 5=some (.ob "Mixed" fs l)):bd ev 5 ()=some (.nx ()):=by
 unfold bd
 refine bn h ?_
 refine bn (of5 fs l) (bn Nt (bn (v:=[false,false,false,false,false,true,false]) rfl (bn (v:=false) rfl ?_)))
 rw [if_neg (show ¬ (false=true) from Bool.noConfusion)]
 refine bn (v:=false) (bn h (bn (fo5 fs l) ?_)) rfl
 rw [if_neg (show ¬ (false=true) from Bool.noConfusion)]
 exact bn (v:=false) (bn h (bn (v:=true) rfl rfl)) rfl
theorem of6 (fs:List Str) (l:List D):gG (.ob "TooMany" fs l)=some [false,false,false,false,false,false,true]:=rfl
theorem fo6 (fs:List Str) (l:List D):cI (.ob "TooMany" fs l)=some false:=rfl
theorem bd6 (ev:List D) (fs:List Str) (l:List D) (h:atI ev 6=some (.ob "TooMany" fs l)):bd ev 6 ()=some (.nx ()):=by
 unfold bd
 refine bn h ?_
 refine bn (of6 fs l) (bn Nt (bn (v:=[false,false,false,false,false,false,true]) rfl (bn (v:=false) rfl ?_)))
 rw [if_neg (show ¬ (false=true) from Bool.noConfusion)]
 refine bn (v:=false) (bn h (bn (fo6 fs l) ?_)) rfl
 rw [if_neg (show ¬ (false=true) from Bool.noConfusion)]
 exact bn (v:=false) (bn h (bn (v:=true) rfl rfl)) rfl
theorem bds (a b c d e f g:List Str×List D) {ev:List D} (h:ev=[.ob "BadValue" a.1 a.2, .ob "BadText" b.1 b.2, .ob "BadPaper" c.1 c.2, .ob "NotMeant" d.1 d.2, .ob "NoWord" e.1 e.2, .ob "Mixed" f.1 f.2, .ob "TooMany" g.1 g.2]) :
  eO (bd ev) [0,1,2,3,4,5,6] ()=some (.nx ()):=by
 have h0:=bd0 ev a.1 a.2 (by rw [h]; rfl)
 have h1:=bd1 ev b.1 b.2 (by rw [h]; rfl)
 have h2:=bd2 ev c.1 c.2 (by rw [h]; rfl)
 have h3:=bd3 ev d.1 d.2 (by rw [h]; rfl)
 have h4:=bd4 ev e.1 e.2 (by rw [h]; rfl)
 have h5:=bd5 ev f.1 f.2 (by rw [h]; rfl)
 have h6:=bd6 ev g.1 g.2 (by rw [h]; rfl)
 unfold eO; rw [h0]
 show (eO (bd ev) [1,2,3,4,5,6] ():Option (Oc Bool Unit))=_
 unfold eO; rw [h1]
 show (eO (bd ev) [2,3,4,5,6] ():Option (Oc Bool Unit))=_
 unfold eO; rw [h2]
 show (eO (bd ev) [3,4,5,6] ():Option (Oc Bool Unit))=_
 unfold eO; rw [h3]
 show (eO (bd ev) [4,5,6] ():Option (Oc Bool Unit))=_
 unfold eO; rw [h4]
 show (eO (bd ev) [5,6] ():Option (Oc Bool Unit))=_
 unfold eO; rw [h5]
 show (eO (bd ev) [6] ():Option (Oc Bool Unit))=_
 unfold eO; rw [h6]
 rfl
theorem abw (ns:List Int):∃ r,Oh ns=some r/\r=true:=by
 unfold Oh
 refine bS (v:=ji ns) rfl ?_
 have hp:=NK ns
 generalize ji ns=row at hp
 obtain ⟨d1,d2⟩:=Dy row 0 (limit:=997) (by decide)
 refine bS (GF hp (by decide) (by decide)) ?_
 generalize draw row 0 997=a at d1 d2
 simp only []
 obtain ⟨e1,e2⟩:=Dy row 1 (limit:=5) (by decide)
 refine bS (GF hp (by decide) (by decide)) ?_
 show ∃ r,Option.bind (atI _ (draw row 1 5)) _=some r/\_
 generalize draw row 1 5=b at e1 e2
 obtain ⟨t,et,ht⟩:=acU (l:=[(.non:D),(.int (-(a - 9)):D),(.str [120]:D),(.tup [.int (a - 9), .int 2]:D),(.bl true:D)]) (i:=b) e1 e2
 refine bS et ?_
 have ta:=Ml (Xw (i:=a - 9) (by omega) (by omega))
 have tt:=Ml (five (a:=a - 9) (by omega) (by omega) ht)
 have tm:bZ (.tup [.str [97,98], .str [97]]) (.tup [.str [97,98], .str [97]])=some true:=Ml ⟨rfl,rfl,by decide⟩
 refine bS (loop1 ta _ _ _ ?_) ?_
 ·intro x hx
  simp only [List.mem_cons,List.not_mem_nil,or_false] at hx
  rcases hx with h | h | h | h | h | h <;> (rw [h]; rfl)
 refine bS (loop1 tt _ _ _ ?_) ?_
 ·intro x hx
  simp only [List.mem_cons,List.not_mem_nil,or_false] at hx
  rcases hx with h | h <;> (rw [h]; rfl)
 refine bS (loop1 tt _ _ _ ?_) ?_
 ·intro x hx
  simp only [List.mem_cons,List.not_mem_nil,or_false] at hx
  rcases hx with h | h <;> (rw [h]; rfl)
 refine bS (Ka tm _ _ _ _ _ ?_) ?_
 ·intro x hx
  simp only [List.mem_cons,List.not_mem_nil,or_false] at hx
  rcases hx with h | h <;> (rw [h]; exact ⟨rfl,rfl⟩)
 refine bS rfl ?_
 refine bS Nt ?_
 refine bS (bds (_,_) (_,_) (_,_) (_,_) (_,_) (_,_) (_,_) rfl) ?_
 refine bS (v:=false) rfl ?_
 refine bE (Q:=fun v:Bool×Int=>v.1=true) ?_ fun v hv=>eS hv
 refine iT rfl ?_
 obtain ⟨f1,f2⟩:=Dy row 2 (limit:=9) (by decide)
 refine bS (GF (n:=2) hp (by decide) (by decide)) ?_
 refine bS (v:=true) ?_ (eS rfl)
 show some (!decide (1+draw row 2 9=0))=some true
 rw [decide_eq_false (by omega)]; rfl
end Va
namespace Va
open PySem PySem.Spec PyProof.Rows L2 DL SW TY oN
theorem Zf (ns:List Int):∃ z,Iv [.im (.fz (ns.map .int))] = .ret (.bl true) z:=by
 obtain ⟨r,h,e⟩:=abw ns
 subst e
 exact ⟨_,adp h⟩
def GP (i:Nat):Stmt:=PySem.Challenge.pw_slipworth_k00_errors.main.body.getD i (.Pass ⟨0,0,0,0⟩)
abbrev jj:Stmt:=GP 10
theorem Kv:FnScope ["found","wanted","k"] ["found","wanted"] (defScope jj):=⟨rfl,rfl,rfl,by decide +kernel,rfl,by decide +kernel,by decide +kernel⟩
abbrev dD:Stmt:=GP 11
theorem Ag:FnScope ["script","row","cell","left","k","mixed"] ["script"] (defScope dD):=⟨rfl,rfl,rfl,by decide +kernel,rfl,by decide +kernel,by decide +kernel⟩
abbrev fD:Stmt:=GP 12
theorem GX:FnScope ["row","at","limit","mixed"] ["row","at","limit"] (defScope fD):=⟨rfl,rfl,rfl,by decide +kernel,rfl,by decide +kernel,by decide +kernel⟩
abbrev fG:Stmt:=GP 13
theorem GZ:FnScope ["row","spot","limit"] ["row","spot","limit"] (defScope fG):=⟨rfl,rfl,rfl,by decide +kernel,rfl,by decide +kernel,by decide +kernel⟩
abbrev jk:Stmt:=GP 14
theorem Ky:FnScope ["value","made"] ["value"] (defScope jk):=⟨rfl,rfl,rfl,by decide +kernel,rfl,by decide +kernel,by decide +kernel⟩
abbrev dF:Stmt:=GP 15
theorem Ah:FnScope ["value"] ["value"] (defScope dF):=⟨rfl,rfl,rfl,by decide +kernel,rfl,by decide +kernel,by decide +kernel⟩
abbrev dW:Stmt:=GP 16
theorem CW:FnScope ["at","wrong"] ["at"] (defScope dW):=⟨rfl,rfl,rfl,by decide +kernel,rfl,by decide +kernel,by decide +kernel⟩
abbrev oh:Stmt:=GP 17
theorem Xx:FnScope ["script","row","spot","at","other","made","every","k","one"] ["script"] (defScope oh):=⟨rfl,rfl,rfl,by decide +kernel,rfl,by decide +kernel,by decide +kernel⟩
set_option maxHeartbeats 0 in
structure Txt (K:PySem.W.Frag) (mg:Str->Option Value) where
 jm:Addr
 wM:FuncData
 sH:mg "_law_so" = some (.ref jm)
 G5:Fun K "_law_so" "_law_so" jj jm wM
 gj:Binds K wM ["found","wanted"] []
 dG:Addr
 j6:FuncData
 CZ:mg "_law_numbers" = some (.ref dG)
 vD:Fun K "_law_numbers" "_law_numbers" dD dG j6
 j5:Binds K j6 ["script"] []
 fH:Addr
 qJ:FuncData
 Ja:mg "_law_draw" = some (.ref fH)
 Ba:Fun K "_law_draw" "_law_draw" fD fH qJ
 qG:Binds K qJ ["row","at","limit"] []
 fJ:Addr
 qK:FuncData
 vP:mg "_law_take" = some (.ref fJ)
 Bb:Fun K "_law_take" "_law_take" fG fJ qK
 jN:Binds K qK ["row","spot","limit"] []
 jo:Addr
 wN:FuncData
 Nu:mg "_law_of" = some (.ref jo)
 G7:Fun K "_law_of" "_law_of" jk jo wN
 sG:Binds K wN ["value"] []
 dH:Addr
 j7:FuncData
 Dc:mg "_law_foreign" = some (.ref dH)
 vG:Fun K "_law_foreign" "_law_foreign" dF dH j7
 ju:Binds K j7 ["value"] []
 dX:Addr
 mF:FuncData
 xQ:mg "_law_caught" = some (.ref dX)
 xR:Fun K "_law_caught" "_law_caught" dW dX mF
 gD:Binds K mF ["at"] []
 Ai:Addr
 Oi:FuncData
 adP:mg "law" = some (.ref Ai)
 aaI:Fun K "law" "law" oh Ai Oi
 Ku:Binds K Oi ["script"] []
 xU:mg "ArithmeticError" = none
 Jb:mg "Exception" = none
 Fo:mg "LookupError" = none
 G8:mg "ValueError" = none
 G9:mg "bool" = none
 tZ:mg "int" = none
 bh:mg "isinstance" = none
 Eb:mg "len" = none
 yG:mg "range" = none
 VN:mg "str" = none
 Mp:mg "tuple" = none
 aF:Addr
 Kz:Addr
 dR:PySem.jK.bU K mg "BadValue" "BadValue.__init__" aF Kz
 aM:Addr
 Nv:Addr
 eG:PySem.jK.bU K mg "BadText" "BadText.__init__" aM Nv
 aG:Addr
 KC:Addr
 dU:PySem.jK.bU K mg "BadPaper" "BadPaper.__init__" aG KC
 aA:Addr
 KD:Addr
 bV:PySem.pB.bU K mg "NotMeant" "NotMeant.__init__" aA KD
 aW:Addr
 QS:Addr
 eU:PySem.pC.bU K mg "NoWord" "NoWord.__init__" aW QS
 bf:Addr
 Vf:Addr
 eE:PySem.fV.bU K mg "Mixed" "Mixed.__init__" bf Vf
 bH:Addr
 yW:mg "SlipError" = some (.ref bH)
 aO:Addr
 uf:UL K mg "TooMany" aO
 bM:mg "BadValue" = some (.ref aF)
 cO:Gy K aF
 Jc:PySem.W.exmOne K (.ref aF) (.ref bH)=some true
 bY:mg "BadText" = some (.ref aM)
 cX:Gy K aM
 KH:PySem.W.exmOne K (.ref aM) (.ref bH)=some true
 bO:mg "BadPaper" = some (.ref aG)
 cP:Gy K aG
 Jd:PySem.W.exmOne K (.ref aG) (.ref bH)=some true
 bD:mg "NotMeant" = some (.ref aA)
 cG:Gy K aA
 Je:PySem.W.exmOne K (.ref aA) (.ref bH)=some true
 cD:mg "NoWord" = some (.ref aW)
 dI:Gy K aW
 Ny:PySem.W.exmOne K (.ref aW) (.ref bH)=some true
 cH:mg "Mixed" = some (.ref bf)
 dJ:Gy K bf
 QT:PySem.W.exmOne K (.ref bf) (.ref bH)=some true
 cR:mg "TooMany" = some (.ref aO)
 cY:Gy K aO
 KJ:PySem.W.exmOne K (.ref aO) (.ref bH)=some true
 ug:PySem.W.kitOne K (.ref aF) (.ref aF)=some true
 uN:PySem.W.kitOne K (.ref aM) (.ref aF)=some false
 uh:PySem.W.kitOne K (.ref aG) (.ref aF)=some false
 uo:PySem.W.kitOne K (.ref aA) (.ref aF)=some false
 wO:PySem.W.kitOne K (.ref aW) (.ref aF)=some false
 xV:PySem.W.kitOne K (.ref bf) (.ref aF)=some false
 uO:PySem.W.kitOne K (.ref aO) (.ref aF)=some false
 uP:PySem.W.kitOne K (.ref aF) (.ref aM)=some false
 wQ:PySem.W.kitOne K (.ref aM) (.ref aM)=some true
 uQ:PySem.W.kitOne K (.ref aG) (.ref aM)=some false
 uR:PySem.W.kitOne K (.ref aA) (.ref aM)=some false
 xW:PySem.W.kitOne K (.ref aW) (.ref aM)=some false
 yX:PySem.W.kitOne K (.ref bf) (.ref aM)=some false
 wR:PySem.W.kitOne K (.ref aO) (.ref aM)=some false
 uw:PySem.W.kitOne K (.ref aF) (.ref aG)=some false
 uU:PySem.W.kitOne K (.ref aM) (.ref aG)=some false
 ux:PySem.W.kitOne K (.ref aG) (.ref aG)=some true
 uz:PySem.W.kitOne K (.ref aA) (.ref aG)=some false
 wU:PySem.W.kitOne K (.ref aW) (.ref aG)=some false
 xX:PySem.W.kitOne K (.ref bf) (.ref aG)=some false
 uV:PySem.W.kitOne K (.ref aO) (.ref aG)=some false
 lJ:PySem.W.kitOne K (.ref aF) (.ref aA)=some false
 mX:PySem.W.kitOne K (.ref aM) (.ref aA)=some false
 lK:PySem.W.kitOne K (.ref aG) (.ref aA)=some false
 lM:PySem.W.kitOne K (.ref aA) (.ref aA)=some true
 oO:PySem.W.kitOne K (.ref aW) (.ref aA)=some false
 pU:PySem.W.kitOne K (.ref bf) (.ref aA)=some false
 mY:PySem.W.kitOne K (.ref aO) (.ref aA)=some false
 wV:PySem.W.kitOne K (.ref aF) (.ref aW)=some false
 xY:PySem.W.kitOne K (.ref aM) (.ref aW)=some false
 wW:PySem.W.kitOne K (.ref aG) (.ref aW)=some false
 wX:PySem.W.kitOne K (.ref aA) (.ref aW)=some false
 yZ:PySem.W.kitOne K (.ref aW) (.ref aW)=some true
 Aj:PySem.W.kitOne K (.ref bf) (.ref aW)=some false
 xZ:PySem.W.kitOne K (.ref aO) (.ref aW)=some false
 yc:PySem.W.kitOne K (.ref aF) (.ref bf)=some false
 za:PySem.W.kitOne K (.ref aM) (.ref bf)=some false
 yd:PySem.W.kitOne K (.ref aG) (.ref bf)=some false
 yg:PySem.W.kitOne K (.ref aA) (.ref bf)=some false
 Ak:PySem.W.kitOne K (.ref aW) (.ref bf)=some false
 Dd:PySem.W.kitOne K (.ref bf) (.ref bf)=some true
 zf:PySem.W.kitOne K (.ref aO) (.ref bf)=some false
 uW:PySem.W.kitOne K (.ref aF) (.ref aO)=some false
 wY:PySem.W.kitOne K (.ref aM) (.ref aO)=some false
 uX:PySem.W.kitOne K (.ref aG) (.ref aO)=some false
 uY:PySem.W.kitOne K (.ref aA) (.ref aO)=some false
 yh:PySem.W.kitOne K (.ref aW) (.ref aO)=some false
 zj:PySem.W.kitOne K (.ref bf) (.ref aO)=some false
 wZ:PySem.W.kitOne K (.ref aO) (.ref aO)=some true
 sJ:PySem.W.kitOne K (.ref aF) (.ref bH)=some true
 uD:PySem.W.kitOne K (.ref aM) (.ref bH)=some true
 sO:PySem.W.kitOne K (.ref aG) (.ref bH)=some true
 sS:PySem.W.kitOne K (.ref aA) (.ref bH)=some true
 uZ:PySem.W.kitOne K (.ref aW) (.ref bH)=some true
 w6:PySem.W.kitOne K (.ref bf) (.ref bH)=some true
 uE:PySem.W.kitOne K (.ref aO) (.ref bH)=some true
 qL:PySem.W.kitOne K (.ref aF) (.type "ValueError")=some false
 sU:PySem.W.kitOne K (.ref aM) (.type "ValueError")=some false
 qM:PySem.W.kitOne K (.ref aG) (.type "ValueError")=some false
 qN:PySem.W.kitOne K (.ref aA) (.type "ValueError")=some false
 uF:PySem.W.kitOne K (.ref aW) (.type "ValueError")=some false
 u5:PySem.W.kitOne K (.ref bf) (.type "ValueError")=some false
 sV:PySem.W.kitOne K (.ref aO) (.type "ValueError")=some false
 pK:PySem.W.kitOne K (.ref aF) (.type "LookupError")=some false
 qO:PySem.W.kitOne K (.ref aM) (.type "LookupError")=some false
 pN:PySem.W.kitOne K (.ref aG) (.type "LookupError")=some false
 pP:PySem.W.kitOne K (.ref aA) (.type "LookupError")=some false
 sW:PySem.W.kitOne K (.ref aW) (.type "LookupError")=some false
 uG:PySem.W.kitOne K (.ref bf) (.type "LookupError")=some false
 qP:PySem.W.kitOne K (.ref aO) (.type "LookupError")=some false
 lC:PySem.W.kitOne K (.ref aF) (.type "ArithmeticError")=some false
 mG:PySem.W.kitOne K (.ref aM) (.type "ArithmeticError")=some false
 lD:PySem.W.kitOne K (.ref aG) (.type "ArithmeticError")=some false
 lE:PySem.W.kitOne K (.ref aA) (.type "ArithmeticError")=some false
 ou:PySem.W.kitOne K (.ref aW) (.type "ArithmeticError")=some false
 oR:PySem.W.kitOne K (.ref bf) (.type "ArithmeticError")=some false
 mH:PySem.W.kitOne K (.ref aO) (.type "ArithmeticError")=some false
 sX:PySem.W.kitOne K (.ref aF) (.type "Exception")=some true
 uH:PySem.W.kitOne K (.ref aM) (.type "Exception")=some true
 sY:PySem.W.kitOne K (.ref aG) (.type "Exception")=some true
 tE:PySem.W.kitOne K (.ref aA) (.type "Exception")=some true
 u6:PySem.W.kitOne K (.ref aW) (.type "Exception")=some true
 xg:PySem.W.kitOne K (.ref bf) (.type "Exception")=some true
 uI:PySem.W.kitOne K (.ref aO) (.type "Exception")=some true
namespace Txt
variable {K:PySem.W.Frag} {mg:Str->Option Value} (T:Txt K mg)
theorem xq:PySem.W.keepIn K (.ref T.jm)=true:=T.G5.kp
theorem Mq:PySem.W.keepIn K (.ref T.dG)=true:=T.vD.kp
theorem R6:PySem.W.keepIn K (.ref T.fH)=true:=T.Ba.kp
theorem Bc:PySem.W.keepIn K (.ref T.fJ)=true:=T.Bb.kp
theorem Xy:PySem.W.keepIn K (.ref T.jo)=true:=T.G7.kp
theorem Mr:PySem.W.keepIn K (.ref T.dH)=true:=T.vG.kp
theorem Fp:PySem.W.keepIn K (.ref T.dX)=true:=T.xR.kp
end Txt
section
variable {P:Program} {w:World} {K:PySem.W.Frag} {mg:Str->Option Value} {base:Heap}
theorem KN {m:Nat} (T:Txt K mg):∀ k:Nat,
  FnOk P w K mg base (L2.CX P w) (m+k) T.jm T.wM ["found","wanted"] (pH ⟨K,w,mg⟩ mg (eZ k))
 | 0=>aa7 Vt
 | k+1=>zR T.G5 Kv (Xe (k+1)) (Xf k) <| fun cdv A outer s H E hr=>by
  have hu:=zW hr
  have hu2:=zX hr
  have nd:(["found","wanted","k"]:List Str).Nodup:=Kv.nd
  have tk:=takes_of (X:=cxOf (L2.CX P w) P w K mg base ["found","wanted","k"] "_law_so" (defScope jj) T.jm cdv A outer s H E) rfl rfl rfl rfl
  have pO:PassesOwn (model P w) (cxOf (L2.CX P w) P w K mg base ["found","wanted","k"] "_law_so" (defScope jj) T.jm cdv A outer s H E).A (cxOf (L2.CX P w) P w K mg base ["found","wanted","k"] "_law_so" (defScope jj) T.jm cdv A outer s H E).env (cxOf (L2.CX P w) P w K mg base ["found","wanted","k"] "_law_so" (defScope jj) T.jm cdv A outer s H E).xe:=passes_of rfl
  have Rk:=KN (m:=m) T k
  exact (bG (jG (wB Wt (aq (i:=1)) Oo (by rfl)) (bB (eX (Fv Wt (aq (i:=0)) Oo (by rfl)))) fZ)
 (bG (jG (jE (qC (T:=.tuple) rfl (by rfl) T.bh (aq (i:=1)) (nW (by rfl) T.Mp (by decide +kernel)))) (bG (jG (DW.dt (JQ (yJ (jE (qC (T:=.tuple) rfl (by rfl) T.bh (aq (i:=0)) (nW (by rfl) T.Mp (by decide +kernel))))) (JN (wB (Zx hu) (vh yE (by rfl) T.Eb (by decide +kernel) (ao (aq (i:=0)) aP)) (vh yE (by rfl) T.Eb (by decide +kernel) (ao (aq (i:=1)) aP)) (by rfl))))) (bB (eX vJ)) fZ)
 (bG (tO pO rfl (Cq (by rfl) T.yG (ao (vh yE (by rfl) T.Eb (by decide +kernel) (ao (aq (i:=1)) aP)) aP)) (mJ (i:=2) nd rfl (by first | exact Or.inl rfl | exact Or.inr rfl)) (bB (jG (yJ (jE (jX Rk hr (by rfl) T.sH T.xq T.gj tk (ao (vK (qF hu) (aq (i:=0)) (aq (i:=2)) (fun _ _=>rfl)) (ao (vK (qF hu) (aq (i:=1)) (aq (i:=2)) (fun _ _=>rfl)) aP))))) (bB (eX vJ)) fZ)))
 (bB (eX vJ)))) fZ)
 (bG (jG (DW.dt (JQ (jE (qC (T:=.bool) rfl (by rfl) T.bh (aq (i:=1)) (nW (by rfl) T.G9 (by decide +kernel)))) (JN (jE (qC (T:=.bool) rfl (by rfl) T.bh (aq (i:=0)) (nW (by rfl) T.G9 (by decide +kernel))))))) (bB (eX (Cp (qC (T:=.bool) rfl (by rfl) T.bh (aq (i:=1)) (nW (by rfl) T.G9 (by decide +kernel))) (Cp (qC (T:=.bool) rfl (by rfl) T.bh (aq (i:=0)) (nW (by rfl) T.G9 (by decide +kernel))) (Fy (Fv (Dg hu) (aq (i:=0)) (aq (i:=1)) (by rfl))))))) fZ)
 (bG (jG (jE (qC (T:=.int) rfl (by rfl) T.bh (aq (i:=1)) (nW (by rfl) T.tZ (by decide +kernel)))) (bB (eX (Cp (qC (T:=.int) rfl (by rfl) T.bh (aq (i:=0)) (nW (by rfl) T.tZ (by decide +kernel))) (Fy (Fv (Dg hu) (aq (i:=0)) (aq (i:=1)) (by rfl)))))) fZ)
 (bB (eX (Cp (qC (T:=.str) rfl (by rfl) T.bh (aq (i:=1)) (nW (by rfl) T.VN (by decide +kernel))) (Cp (qC (T:=.str) rfl (by rfl) T.bh (aq (i:=0)) (nW (by rfl) T.VN (by decide +kernel))) (Fy (Fv (Dg hu) (aq (i:=0)) (aq (i:=1)) (by rfl)))))))))))
theorem KQ {k:Nat} (T:Txt K mg) :
  FnOk P w K mg base (L2.CX P w) (k+1) T.dG T.j6 ["script"] (pH ⟨K,w,mg⟩ mg gK):=
 zR T.vD Ag LC LK <| fun cdv A outer s H E hr=>by
 have hu:=zW hr
 have hu2:=zX hr
 have nd:(["script","row","cell","left","k","mixed"]:List Str).Nodup:=Ag.nd
 have tk:=takes_of (X:=cxOf (L2.CX P w) P w K mg base ["script","row","cell","left","k","mixed"] "_law_numbers" (defScope dD) T.dG cdv A outer s H E) rfl rfl rfl rfl
 have pO:PassesOwn (model P w) (cxOf (L2.CX P w) P w K mg base ["script","row","cell","left","k","mixed"] "_law_numbers" (defScope dD) T.dG cdv A outer s H E).A (cxOf (L2.CX P w) P w K mg base ["script","row","cell","left","k","mixed"] "_law_numbers" (defScope dD) T.dG cdv A outer s H E).env (cxOf (L2.CX P w) P w K mg base ["script","row","cell","left","k","mixed"] "_law_numbers" (defScope dD) T.dG cdv A outer s H E).xe:=passes_of rfl
 exact (bG (Uk (i:=1) nd rfl (by first | exact Or.inl rfl | exact Or.inr rfl) (Oz aP))
 (bG (tO pO rfl (FQ (Yo (aq (i:=0)) abM (Yn bJ))) (mJ (i:=2) nd rfl (by first | exact Or.inl rfl | exact Or.inr rfl)) (bB (jG (wB ac0 (aq (i:=2)) (cU abC bJ bJ) (by rfl)) (bG (tL (i:=3) nd rfl (by first | exact Or.inl rfl | exact Or.inr rfl) (aq (i:=2)))
 (bB (tO pO rfl (Cq (by rfl) T.yG (ao bJ aP)) (mJ (i:=4) nd rfl (by first | exact Or.inl rfl | exact Or.inr rfl)) (bG (jG (wB (Dg hu) (aq (i:=3)) bJ (by rfl)) (bB abP) fZ)
 (bG (FZ (i:=1) (pe_var rfl (by first | exact Or.inl rfl | exact Or.inr (Or.inl rfl) | exact Or.inr (Or.inr rfl)) (by decide) (by decide)) (cU wz (lg wF (by rfl) T.tZ (by decide +kernel) (ao (aq (i:=3)) aP)) bJ))
 (bB (tL (i:=3) nd rfl (by first | exact Or.inl rfl | exact Or.inr rfl) (cU aaL (aq (i:=3)) bJ)))))))) (bB (tO pO rfl (Cq (by rfl) T.yG (ao bJ aP)) (mJ (i:=4) nd rfl (by first | exact Or.inl rfl | exact Or.inr rfl)) (bG (tL (i:=5) nd rfl (by first | exact Or.inl rfl | exact Or.inr rfl) (cU wz (lg wF (by rfl) T.tZ (by decide +kernel) (ao (cU tK (cU tK (cU Cm (aq (i:=2)) bJ) (cU Cm (aq (i:=4)) bJ)) bJ) aP)) bJ))
 (bB (FZ (i:=1) (pe_var rfl (by first | exact Or.inl rfl | exact Or.inr (Or.inl rfl) | exact Or.inr (Or.inr rfl)) (by decide) (by decide)) (cU wz (lg wF (by rfl) T.tZ (by decide +kernel) (ao (cU tK (cU Cm (aq (i:=5)) bJ) (aq (i:=4))) aP)) bJ)))))))))
 (bG (jG (wB (Dg hu) (vh yE (by rfl) T.Eb (by decide +kernel) (ao (aq (i:=1)) aP)) bJ (by rfl)) (bB (FZ (i:=1) (pe_var rfl (by first | exact Or.inl rfl | exact Or.inr (Or.inl rfl) | exact Or.inr (Or.inr rfl)) (by decide) (by decide)) bJ)) fZ)
 (bB (eX (ac9 (i:=1) (pe_var rfl (by first | exact Or.inl rfl | exact Or.inr (Or.inl rfl) | exact Or.inr (Or.inr rfl)) (by decide) (by decide))))))))
theorem QV {k:Nat} (T:Txt K mg) :
  FnOk P w K mg base (L2.CX P w) (k+1) T.fH T.qJ ["row","at","limit"] (pH ⟨K,w,mg⟩ mg mQ):=
 zR T.Ba GX RW RX <| fun cdv A outer s H E hr=>by
 have hu:=zW hr
 have hu2:=zX hr
 have nd:(["row","at","limit","mixed"]:List Str).Nodup:=GX.nd
 have tk:=takes_of (X:=cxOf (L2.CX P w) P w K mg base ["row","at","limit","mixed"] "_law_draw" (defScope fD) T.fH cdv A outer s H E) rfl rfl rfl rfl
 have pO:PassesOwn (model P w) (cxOf (L2.CX P w) P w K mg base ["row","at","limit","mixed"] "_law_draw" (defScope fD) T.fH cdv A outer s H E).A (cxOf (L2.CX P w) P w K mg base ["row","at","limit","mixed"] "_law_draw" (defScope fD) T.fH cdv A outer s H E).env (cxOf (L2.CX P w) P w K mg base ["row","at","limit","mixed"] "_law_draw" (defScope fD) T.fH cdv A outer s H E).xe:=passes_of rfl
 exact (bG (jG (wB (acZ hu) (aq (i:=1)) (vh yE (by rfl) T.Eb (by decide +kernel) (ao (aq (i:=0)) aP)) (by rfl)) (bB (eX (cU wz (lg wF (by rfl) T.tZ (by decide +kernel) (ao (vK (qF hu) (aq (i:=0)) (aq (i:=1)) (fun _ _=>rfl)) aP)) (aq (i:=2))))) fZ)
 (bG (tL (i:=3) nd rfl (by first | exact Or.inl rfl | exact Or.inr rfl) (cU wz (lg wF (by rfl) T.tZ (by decide +kernel) (ao (cU tK (cU tK (cU Cm (vK (qF hu) (aq (i:=0)) (cU wz (lg wF (by rfl) T.tZ (by decide +kernel) (ao (aq (i:=1)) aP)) (vh yE (by rfl) T.Eb (by decide +kernel) (ao (aq (i:=0)) aP))) (fun _ _=>rfl)) bJ) (cU Cm (aq (i:=1)) bJ)) bJ) aP)) bJ))
 (bB (eX (cU wz (lg wF (by rfl) T.tZ (by decide +kernel) (ao (cU wz (lg wF (by rfl) T.tZ (by decide +kernel) (ao (cU tK (cU Cm (aq (i:=3)) bJ) (aq (i:=1))) aP)) bJ) aP)) (aq (i:=2)))))))
theorem QW {k:Nat} (T:Txt K mg) (Bf:FnOk P w K mg base (L2.CX P w) k T.fH T.qJ ["row","at","limit"] (pH ⟨K,w,mg⟩ mg mQ)) :
  FnOk P w K mg base (L2.CX P w) (k+1) T.fJ T.qK ["row","spot","limit"] (pH ⟨K,w,mg⟩ mg fB):=
 zR T.Bb GZ R3 R4 <| fun cdv A outer s H E hr=>by
 have hu:=zW hr
 have hu2:=zX hr
 have nd:(["row","spot","limit"]:List Str).Nodup:=GZ.nd
 have tk:=takes_of (X:=cxOf (L2.CX P w) P w K mg base ["row","spot","limit"] "_law_take" (defScope fG) T.fJ cdv A outer s H E) rfl rfl rfl rfl
 have pO:PassesOwn (model P w) (cxOf (L2.CX P w) P w K mg base ["row","spot","limit"] "_law_take" (defScope fG) T.fJ cdv A outer s H E).A (cxOf (L2.CX P w) P w K mg base ["row","spot","limit"] "_law_take" (defScope fG) T.fJ cdv A outer s H E).env (cxOf (L2.CX P w) P w K mg base ["row","spot","limit"] "_law_take" (defScope fG) T.fJ cdv A outer s H E).xe:=passes_of rfl
 exact (bG (Vp (i:=1) (j:=0) (pe_var rfl (by first | exact Or.inl rfl | exact Or.inr (Or.inl rfl) | exact Or.inr (Or.inr rfl)) (by decide) (by decide)) (cU tK (vK (qF hu) (aq (i:=1)) bJ (fun _ _=>rfl)) bJ))
 (bB (eX (jX Bf hr (by rfl) T.Ja T.R6 T.qG tk (ao (aq (i:=0)) (ao (cU Ws (vK (qF hu) (aq (i:=1)) bJ (fun _ _=>rfl)) bJ) (ao (aq (i:=2)) aP)))))))
theorem VP {k:Nat} (T:Txt K mg) :
  FnOk P w K mg base (L2.CX P w) (k+1) T.jo T.wN ["value"] (pH ⟨K,w,mg⟩ mg lB):=
 zR T.G7 Ky Xq Xr <| fun cdv A outer s H E hr=>by
 have hu:=zW hr
 have hu2:=zX hr
 have nd:(["value","made"]:List Str).Nodup:=Ky.nd
 have tk:=takes_of (X:=cxOf (L2.CX P w) P w K mg base ["value","made"] "_law_of" (defScope jk) T.jo cdv A outer s H E) rfl rfl rfl rfl
 have pO:PassesOwn (model P w) (cxOf (L2.CX P w) P w K mg base ["value","made"] "_law_of" (defScope jk) T.jo cdv A outer s H E).A (cxOf (L2.CX P w) P w K mg base ["value","made"] "_law_of" (defScope jk) T.jo cdv A outer s H E).env (cxOf (L2.CX P w) P w K mg base ["value","made"] "_law_of" (defScope jk) T.jo cdv A outer s H E).xe:=passes_of rfl
 exact (bG (tL (i:=1) nd rfl (by first | exact Or.inl rfl | exact Or.inr rfl) (wD (ao (qZ (T:=.ref T.aF) (tv:=.ref T.aF) (List.forall_mem_cons.mpr ⟨⟨T.aF,T.bM,T.cO,T.ug⟩,(List.forall_mem_cons.mpr ⟨⟨T.aM,T.bY,T.cX,T.uN⟩,(List.forall_mem_cons.mpr ⟨⟨T.aG,T.bO,T.cP,T.uh⟩,(List.forall_mem_cons.mpr ⟨⟨T.aA,T.bD,T.cG,T.uo⟩,(List.forall_mem_cons.mpr ⟨⟨T.aW,T.cD,T.dI,T.wO⟩,(List.forall_mem_cons.mpr ⟨⟨T.bf,T.cH,T.dJ,T.xV⟩,(List.forall_mem_cons.mpr ⟨⟨T.aO,T.cR,T.cY,T.uO⟩,(fun _ h=>nomatch h)⟩)⟩)⟩)⟩)⟩)⟩)⟩) rfl (by rfl) T.bh (aq (i:=0)) (pe_glob (v:=.ref T.aF) (by rfl) T.bM rfl) (fun u h=>h)) (ao (qZ (T:=.ref T.aM) (tv:=.ref T.aM) (List.forall_mem_cons.mpr ⟨⟨T.aF,T.bM,T.cO,T.uP⟩,(List.forall_mem_cons.mpr ⟨⟨T.aM,T.bY,T.cX,T.wQ⟩,(List.forall_mem_cons.mpr ⟨⟨T.aG,T.bO,T.cP,T.uQ⟩,(List.forall_mem_cons.mpr ⟨⟨T.aA,T.bD,T.cG,T.uR⟩,(List.forall_mem_cons.mpr ⟨⟨T.aW,T.cD,T.dI,T.xW⟩,(List.forall_mem_cons.mpr ⟨⟨T.bf,T.cH,T.dJ,T.yX⟩,(List.forall_mem_cons.mpr ⟨⟨T.aO,T.cR,T.cY,T.wR⟩,(fun _ h=>nomatch h)⟩)⟩)⟩)⟩)⟩)⟩)⟩) rfl (by rfl) T.bh (aq (i:=0)) (pe_glob (v:=.ref T.aM) (by rfl) T.bY rfl) (fun u h=>h)) (ao (qZ (T:=.ref T.aG) (tv:=.ref T.aG) (List.forall_mem_cons.mpr ⟨⟨T.aF,T.bM,T.cO,T.uw⟩,(List.forall_mem_cons.mpr ⟨⟨T.aM,T.bY,T.cX,T.uU⟩,(List.forall_mem_cons.mpr ⟨⟨T.aG,T.bO,T.cP,T.ux⟩,(List.forall_mem_cons.mpr ⟨⟨T.aA,T.bD,T.cG,T.uz⟩,(List.forall_mem_cons.mpr ⟨⟨T.aW,T.cD,T.dI,T.wU⟩,(List.forall_mem_cons.mpr ⟨⟨T.bf,T.cH,T.dJ,T.xX⟩,(List.forall_mem_cons.mpr ⟨⟨T.aO,T.cR,T.cY,T.uV⟩,(fun _ h=>nomatch h)⟩)⟩)⟩)⟩)⟩)⟩)⟩) rfl (by rfl) T.bh (aq (i:=0)) (pe_glob (v:=.ref T.aG) (by rfl) T.bO rfl) (fun u h=>h)) (ao (qZ (T:=.ref T.aA) (tv:=.ref T.aA) (List.forall_mem_cons.mpr ⟨⟨T.aF,T.bM,T.cO,T.lJ⟩,(List.forall_mem_cons.mpr ⟨⟨T.aM,T.bY,T.cX,T.mX⟩,(List.forall_mem_cons.mpr ⟨⟨T.aG,T.bO,T.cP,T.lK⟩,(List.forall_mem_cons.mpr ⟨⟨T.aA,T.bD,T.cG,T.lM⟩,(List.forall_mem_cons.mpr ⟨⟨T.aW,T.cD,T.dI,T.oO⟩,(List.forall_mem_cons.mpr ⟨⟨T.bf,T.cH,T.dJ,T.pU⟩,(List.forall_mem_cons.mpr ⟨⟨T.aO,T.cR,T.cY,T.mY⟩,(fun _ h=>nomatch h)⟩)⟩)⟩)⟩)⟩)⟩)⟩) rfl (by rfl) T.bh (aq (i:=0)) (pe_glob (v:=.ref T.aA) (by rfl) T.bD rfl) (fun u h=>h)) aP))))))
 (bB (eX (cU tK (aq (i:=1)) (wD (ao (qZ (T:=.ref T.aW) (tv:=.ref T.aW) (List.forall_mem_cons.mpr ⟨⟨T.aF,T.bM,T.cO,T.wV⟩,(List.forall_mem_cons.mpr ⟨⟨T.aM,T.bY,T.cX,T.xY⟩,(List.forall_mem_cons.mpr ⟨⟨T.aG,T.bO,T.cP,T.wW⟩,(List.forall_mem_cons.mpr ⟨⟨T.aA,T.bD,T.cG,T.wX⟩,(List.forall_mem_cons.mpr ⟨⟨T.aW,T.cD,T.dI,T.yZ⟩,(List.forall_mem_cons.mpr ⟨⟨T.bf,T.cH,T.dJ,T.Aj⟩,(List.forall_mem_cons.mpr ⟨⟨T.aO,T.cR,T.cY,T.xZ⟩,(fun _ h=>nomatch h)⟩)⟩)⟩)⟩)⟩)⟩)⟩) rfl (by rfl) T.bh (aq (i:=0)) (pe_glob (v:=.ref T.aW) (by rfl) T.cD rfl) (fun u h=>h)) (ao (qZ (T:=.ref T.bf) (tv:=.ref T.bf) (List.forall_mem_cons.mpr ⟨⟨T.aF,T.bM,T.cO,T.yc⟩,(List.forall_mem_cons.mpr ⟨⟨T.aM,T.bY,T.cX,T.za⟩,(List.forall_mem_cons.mpr ⟨⟨T.aG,T.bO,T.cP,T.yd⟩,(List.forall_mem_cons.mpr ⟨⟨T.aA,T.bD,T.cG,T.yg⟩,(List.forall_mem_cons.mpr ⟨⟨T.aW,T.cD,T.dI,T.Ak⟩,(List.forall_mem_cons.mpr ⟨⟨T.bf,T.cH,T.dJ,T.Dd⟩,(List.forall_mem_cons.mpr ⟨⟨T.aO,T.cR,T.cY,T.zf⟩,(fun _ h=>nomatch h)⟩)⟩)⟩)⟩)⟩)⟩)⟩) rfl (by rfl) T.bh (aq (i:=0)) (pe_glob (v:=.ref T.bf) (by rfl) T.cH rfl) (fun u h=>h)) (ao (qZ (T:=.ref T.aO) (tv:=.ref T.aO) (List.forall_mem_cons.mpr ⟨⟨T.aF,T.bM,T.cO,T.uW⟩,(List.forall_mem_cons.mpr ⟨⟨T.aM,T.bY,T.cX,T.wY⟩,(List.forall_mem_cons.mpr ⟨⟨T.aG,T.bO,T.cP,T.uX⟩,(List.forall_mem_cons.mpr ⟨⟨T.aA,T.bD,T.cG,T.uY⟩,(List.forall_mem_cons.mpr ⟨⟨T.aW,T.cD,T.dI,T.yh⟩,(List.forall_mem_cons.mpr ⟨⟨T.bf,T.cH,T.dJ,T.zj⟩,(List.forall_mem_cons.mpr ⟨⟨T.aO,T.cR,T.cY,T.wZ⟩,(fun _ h=>nomatch h)⟩)⟩)⟩)⟩)⟩)⟩)⟩) rfl (by rfl) T.bh (aq (i:=0)) (pe_glob (v:=.ref T.aO) (by rfl) T.cR rfl) (fun u h=>h)) aP))))))))
theorem KR {k:Nat} (T:Txt K mg) :
  FnOk P w K mg base (L2.CX P w) (k+1) T.dH T.j7 ["value"] (pH ⟨K,w,mg⟩ mg dZ):=
 zR T.vG Ah Mh Mi <| fun cdv A outer s H E hr=>by
 have hu:=zW hr
 have hu2:=zX hr
 have nd:(["value"]:List Str).Nodup:=Ah.nd
 have tk:=takes_of (X:=cxOf (L2.CX P w) P w K mg base ["value"] "_law_foreign" (defScope dF) T.dH cdv A outer s H E) rfl rfl rfl rfl
 have pO:PassesOwn (model P w) (cxOf (L2.CX P w) P w K mg base ["value"] "_law_foreign" (defScope dF) T.dH cdv A outer s H E).A (cxOf (L2.CX P w) P w K mg base ["value"] "_law_foreign" (defScope dF) T.dH cdv A outer s H E).env (cxOf (L2.CX P w) P w K mg base ["value"] "_law_foreign" (defScope dF) T.dH cdv A outer s H E).xe:=passes_of rfl
 exact (bG (jG (DW.dt (JQ (jE (qZ (T:=.type "ValueError") (tv:=.ty "ValueError") (List.forall_mem_cons.mpr ⟨⟨T.aF,T.bM,T.cO,T.qL⟩,(List.forall_mem_cons.mpr ⟨⟨T.aM,T.bY,T.cX,T.sU⟩,(List.forall_mem_cons.mpr ⟨⟨T.aG,T.bO,T.cP,T.qM⟩,(List.forall_mem_cons.mpr ⟨⟨T.aA,T.bD,T.cG,T.qN⟩,(List.forall_mem_cons.mpr ⟨⟨T.aW,T.cD,T.dI,T.uF⟩,(List.forall_mem_cons.mpr ⟨⟨T.bf,T.cH,T.dJ,T.u5⟩,(List.forall_mem_cons.mpr ⟨⟨T.aO,T.cR,T.cY,T.sV⟩,(fun _ h=>nomatch h)⟩)⟩)⟩)⟩)⟩)⟩)⟩) rfl (by rfl) T.bh (aq (i:=0)) (nW (by rfl) T.G8 (by decide +kernel)) (fun u h=>h))) (JN (jE (qZ (T:=.type "LookupError") (tv:=.ty "LookupError") (List.forall_mem_cons.mpr ⟨⟨T.aF,T.bM,T.cO,T.pK⟩,(List.forall_mem_cons.mpr ⟨⟨T.aM,T.bY,T.cX,T.qO⟩,(List.forall_mem_cons.mpr ⟨⟨T.aG,T.bO,T.cP,T.pN⟩,(List.forall_mem_cons.mpr ⟨⟨T.aA,T.bD,T.cG,T.pP⟩,(List.forall_mem_cons.mpr ⟨⟨T.aW,T.cD,T.dI,T.sW⟩,(List.forall_mem_cons.mpr ⟨⟨T.bf,T.cH,T.dJ,T.uG⟩,(List.forall_mem_cons.mpr ⟨⟨T.aO,T.cR,T.cY,T.qP⟩,(fun _ h=>nomatch h)⟩)⟩)⟩)⟩)⟩)⟩)⟩) rfl (by rfl) T.bh (aq (i:=0)) (nW (by rfl) T.Fo (by decide +kernel)) (fun u h=>h)))))) (bB (eX vJ)) fZ)
 (bB (eX (ac1 (qZ (T:=.type "ArithmeticError") (tv:=.ty "ArithmeticError") (List.forall_mem_cons.mpr ⟨⟨T.aF,T.bM,T.cO,T.lC⟩,(List.forall_mem_cons.mpr ⟨⟨T.aM,T.bY,T.cX,T.mG⟩,(List.forall_mem_cons.mpr ⟨⟨T.aG,T.bO,T.cP,T.lD⟩,(List.forall_mem_cons.mpr ⟨⟨T.aA,T.bD,T.cG,T.lE⟩,(List.forall_mem_cons.mpr ⟨⟨T.aW,T.cD,T.dI,T.ou⟩,(List.forall_mem_cons.mpr ⟨⟨T.bf,T.cH,T.dJ,T.oR⟩,(List.forall_mem_cons.mpr ⟨⟨T.aO,T.cR,T.cY,T.mH⟩,(fun _ h=>nomatch h)⟩)⟩)⟩)⟩)⟩)⟩)⟩) rfl (by rfl) T.bh (aq (i:=0)) (nW (by rfl) T.xU (by decide +kernel)) (fun u h=>h)) (Fy (Ww (qZ (T:=.type "Exception") (tv:=.ty "Exception") (List.forall_mem_cons.mpr ⟨⟨T.aF,T.bM,T.cO,T.sX⟩,(List.forall_mem_cons.mpr ⟨⟨T.aM,T.bY,T.cX,T.uH⟩,(List.forall_mem_cons.mpr ⟨⟨T.aG,T.bO,T.cP,T.sY⟩,(List.forall_mem_cons.mpr ⟨⟨T.aA,T.bD,T.cG,T.tE⟩,(List.forall_mem_cons.mpr ⟨⟨T.aW,T.cD,T.dI,T.u6⟩,(List.forall_mem_cons.mpr ⟨⟨T.bf,T.cH,T.dJ,T.xg⟩,(List.forall_mem_cons.mpr ⟨⟨T.aO,T.cR,T.cY,T.uI⟩,(fun _ h=>nomatch h)⟩)⟩)⟩)⟩)⟩)⟩)⟩) rfl (by rfl) T.bh (aq (i:=0)) (nW (by rfl) T.Jb (by decide +kernel)) (fun u h=>h))))))))
theorem Ms {k:Nat} (T:Txt K mg) :
  FnOk P w K mg base (L2.CX P w) (k+1+1) T.dX T.mF ["at"] (pH ⟨K,w,mg⟩ mg dh):=
 zR T.xR CW NQ NT <| fun cdv A outer s H E hr=>by
 have hu:=zW hr
 have hu2:=zX hr
 have nd:(["at","wrong"]:List Str).Nodup:=CW.nd
 have tk:=takes_of (X:=cxOf (L2.CX P w) P w K mg base ["at","wrong"] "_law_caught" (defScope dW) T.dX cdv A outer s H E) rfl rfl rfl rfl
 have pO:PassesOwn (model P w) (cxOf (L2.CX P w) P w K mg base ["at","wrong"] "_law_caught" (defScope dW) T.dX cdv A outer s H E).A (cxOf (L2.CX P w) P w K mg base ["at","wrong"] "_law_caught" (defScope dW) T.dX cdv A outer s H E).env (cxOf (L2.CX P w) P w K mg base ["at","wrong"] "_law_caught" (defScope dW) T.dX cdv A outer s H E).xe:=passes_of rfl
 exact (bB (Y5 (i:=1) (B:=T.bH) (T:=.ref T.aA) (List.forall_mem_cons.mpr ⟨⟨T.aF,T.bM,T.cO,T.lJ,T.Jc⟩,(List.forall_mem_cons.mpr ⟨⟨T.aM,T.bY,T.cX,T.mX,T.KH⟩,(List.forall_mem_cons.mpr ⟨⟨T.aG,T.bO,T.cP,T.lK,T.Jd⟩,(List.forall_mem_cons.mpr ⟨⟨T.aA,T.bD,T.cG,T.lM,T.Je⟩,(List.forall_mem_cons.mpr ⟨⟨T.aW,T.cD,T.dI,T.oO,T.Ny⟩,(List.forall_mem_cons.mpr ⟨⟨T.bf,T.cH,T.dJ,T.pU,T.QT⟩,(List.forall_mem_cons.mpr ⟨⟨T.aO,T.cR,T.cY,T.mY,T.KJ⟩,(fun _ h=>nomatch h)⟩)⟩)⟩)⟩)⟩)⟩)⟩) rfl rfl nd rfl rfl ⟨by rfl,by decide, .inl T.yW⟩ tk
 (fun W' pn xe tk pO=>(bG (jG (wB (Dg hu) (aq (i:=0)) bJ (by rfl)) (bB (Xb rfl T.uf tk (by rfl))) fZ)
 (bB (Xm rfl (Ma T.bV) T.bD T.bV.kC T.bV.exC T.bV.tyC hr tk (ao qw aP) (by rfl))))) (fun a oe cls od pn hz hf=>acu (tv:=.ref T.aA) hz hf rfl (by rfl) T.bh (pe_var (i:=1) rfl (by first | exact Or.inl rfl | exact Or.inr (Or.inl rfl) | exact Or.inr (Or.inr rfl)) (by decide) (by decide)) (pe_glob (v:=.ref T.aA) (by rfl) T.bD rfl) (fun u h=>h))))
theorem acV {k:Nat} (T:Txt K mg) (vH:FnOk P w K mg base (L2.CX P w) (k+1) T.dG T.j6 ["script"] (pH ⟨K,w,mg⟩ mg gK)) (qQ:FnOk P w K mg base (L2.CX P w) (k+1) T.fJ T.qK ["row","spot","limit"] (pH ⟨K,w,mg⟩ mg fB)) (rE:FnOk P w K mg base (L2.CX P w) (k+1) T.dX T.mF ["at"] (pH ⟨K,w,mg⟩ mg dh)) (tG:FnOk P w K mg base (L2.CX P w) (k+1) T.jm T.wM ["found","wanted"] (pH ⟨K,w,mg⟩ mg (eZ 20))) (vI:FnOk P w K mg base (L2.CX P w) (k+1) T.dH T.j7 ["value"] (pH ⟨K,w,mg⟩ mg dZ)) (Hf:FnOk P w K mg base (L2.CX P w) (k+1) T.jo T.wN ["value"] (pH ⟨K,w,mg⟩ mg lB)) :
  FnOk P w K mg base (L2.CX P w) (k+1+1) T.Ai T.Oi ["script"] (pH ⟨K,w,mg⟩ mg Iv):=
 zR T.aaI Xx adn ado <| fun cdv A outer s H E hr=>by
 have hu:=zW hr
 have hu2:=zX hr
 have nd:(["script","row","spot","at","other","made","every","k","one"]:List Str).Nodup:=Xx.nd
 have tk:=takes_of (X:=cxOf (L2.CX P w) P w K mg base ["script","row","spot","at","other","made","every","k","one"] "law" (defScope oh) T.Ai cdv A outer s H E) rfl rfl rfl rfl
 have pO:PassesOwn (model P w) (cxOf (L2.CX P w) P w K mg base ["script","row","spot","at","other","made","every","k","one"] "law" (defScope oh) T.Ai cdv A outer s H E).A (cxOf (L2.CX P w) P w K mg base ["script","row","spot","at","other","made","every","k","one"] "law" (defScope oh) T.Ai cdv A outer s H E).env (cxOf (L2.CX P w) P w K mg base ["script","row","spot","at","other","made","every","k","one"] "law" (defScope oh) T.Ai cdv A outer s H E).xe:=passes_of rfl
 exact (bG (tL (i:=1) nd rfl (by first | exact Or.inl rfl | exact Or.inr rfl) (jX vH hr (by rfl) T.CZ T.Mq T.j5 tk (ao (aq (i:=0)) aP)))
 (bG (Uk (i:=2) nd rfl (by first | exact Or.inl rfl | exact Or.inr rfl) (Oz (ao bJ aP)))
 (bG (tL (i:=3) nd rfl (by first | exact Or.inl rfl | exact Or.inr rfl) (cU Ws (Gf (j:=1) qQ hr (by rfl) T.vP T.Bc T.jN tk (ao (aq (i:=1)) (ao (aq (i:=2)) (ao bJ aP)))) bJ))
 (bG (tL (i:=4) nd rfl (by first | exact Or.inl rfl | exact Or.inr rfl) (vK (qF hu) (wD (ao Oo (ao (ab8 (aq (i:=3))) (ao qw (ao (Ox (ao (aq (i:=3)) (ao bJ aP))) (ao vJ aP)))))) (Gf (j:=1) qQ hr (by rfl) T.vP T.Bc T.jN tk (ao (aq (i:=1)) (ao (aq (i:=2)) (ao bJ aP)))) (fun _ _=>rfl)))
 (bG (tO pO rfl (FQ (wD (ao (qY (Im T.dR) T.bM T.dR.kC T.dR.ga hr (by rfl) (ao (aq (i:=3)) aP)) (ao (qY (Im T.eG) T.bY T.eG.kC T.eG.ga hr (by rfl) (ao (aq (i:=3)) aP)) (ao (qY (Im T.dU) T.bO T.dU.kC T.dU.ga hr (by rfl) (ao (aq (i:=3)) aP)) (ao (CN (Qo T.dR) T.bM T.dR.kC T.dR.ga hr (by rfl) (vo (aq (i:=3)) Cu)) (ao (CN (Qo T.eG) T.bY T.eG.kC T.eG.ga hr (by rfl) (vo (aq (i:=3)) Cu)) (ao (CN (Qo T.dU) T.bO T.dU.kC T.dU.ga hr (by rfl) (vo (aq (i:=3)) Cu)) aP)))))))) (mJ (i:=5) nd rfl (by first | exact Or.inl rfl | exact Or.inr rfl)) (bB (jG (yJ (jE (jX tG hr (by rfl) T.sH T.xq T.gj tk (ao (Ke (List.forall_mem_cons.mpr ⟨⟨T.aF,T.bM,T.cO,T.dR.pJ⟩,(List.forall_mem_cons.mpr ⟨⟨T.aM,T.bY,T.cX,T.eG.pJ⟩,(List.forall_mem_cons.mpr ⟨⟨T.aG,T.bO,T.cP,T.dU.pJ⟩,(fun _ h=>nomatch h)⟩)⟩)⟩) (aq (i:=5))) (ao (aq (i:=3)) aP))))) (bB (eX vJ)) fZ)))
 (bG (tO pO rfl (FQ (wD (ao (qY (Ma T.bV) T.bD T.bV.kC T.bV.ga hr (by rfl) (ao (aq (i:=4)) aP)) (ao (CN (YZ T.bV) T.bD T.bV.kC T.bV.ga hr (by rfl) (vo (aq (i:=4)) Cu)) aP)))) (mJ (i:=5) nd rfl (by first | exact Or.inl rfl | exact Or.inr rfl)) (bB (jG (yJ (jE (jX tG hr (by rfl) T.sH T.xq T.gj tk (ao (Ke (List.forall_mem_cons.mpr ⟨⟨T.aA,T.bD,T.cG,T.bV.pJ⟩,(List.forall_mem_cons.mpr ⟨⟨T.bf,T.cH,T.dJ,T.eE.ZW⟩,(fun _ h=>nomatch h)⟩)⟩) (aq (i:=5))) (ao (aq (i:=4)) aP))))) (bB (eX vJ)) fZ)))
 (bG (tO pO rfl (FQ (wD (ao (qY (U9 T.eU) T.cD T.eU.kC T.eU.ga hr (by rfl) (ao (aq (i:=4)) aP)) (ao (CN (Y0 T.eU) T.cD T.eU.kC T.eU.ga hr (by rfl) (vo (aq (i:=4)) Cu)) aP)))) (mJ (i:=5) nd rfl (by first | exact Or.inl rfl | exact Or.inr rfl)) (bB (jG (yJ (jE (jX tG hr (by rfl) T.sH T.xq T.gj tk (ao (Ke (List.forall_mem_cons.mpr ⟨⟨T.aW,T.cD,T.dI,T.eU.pJ⟩,(List.forall_mem_cons.mpr ⟨⟨T.bf,T.cH,T.dJ,T.eE.pJ⟩,(fun _ h=>nomatch h)⟩)⟩) (aq (i:=5))) (ao (aq (i:=4)) aP))))) (bB (eX vJ)) fZ)))
 (bG (tO pO rfl (FQ (wD (ao (qY (Qp T.eE) T.cH T.eE.kC T.eE.ga hr (by rfl) (ao qw (ao qw aP))) (ao (CN (Xl T.eE) T.cH T.eE.kC T.eE.ga hr (by rfl) (vo qw (vo qw Cu))) aP)))) (mJ (i:=5) nd rfl (by first | exact Or.inl rfl | exact Or.inr rfl)) (bB (jG (yJ (jE (jX tG hr (by rfl) T.sH T.xq T.gj tk (ao (Ox (ao (Ke (List.forall_mem_cons.mpr ⟨⟨T.aW,T.cD,T.dI,T.eU.pJ⟩,(List.forall_mem_cons.mpr ⟨⟨T.bf,T.cH,T.dJ,T.eE.pJ⟩,(fun _ h=>nomatch h)⟩)⟩) (aq (i:=5))) (ao (Ke (List.forall_mem_cons.mpr ⟨⟨T.aA,T.bD,T.cG,T.bV.pJ⟩,(List.forall_mem_cons.mpr ⟨⟨T.bf,T.cH,T.dJ,T.eE.ZW⟩,(fun _ h=>nomatch h)⟩)⟩) (aq (i:=5))) aP))) (ao (Ox (ao qw (ao qw aP))) aP))))) (bB (eX vJ)) fZ)))
 (bG (tL (i:=6) nd rfl (by first | exact Or.inl rfl | exact Or.inr rfl) (wD (ao (qY (Im T.dR) T.bM T.dR.kC T.dR.ga hr (by rfl) (ao (aq (i:=3)) aP)) (ao (qY (Im T.eG) T.bY T.eG.kC T.eG.ga hr (by rfl) (ao (aq (i:=3)) aP)) (ao (qY (Im T.dU) T.bO T.dU.kC T.dU.ga hr (by rfl) (ao (aq (i:=3)) aP)) (ao (qY (Ma T.bV) T.bD T.bV.kC T.bV.ga hr (by rfl) (ao (aq (i:=4)) aP)) (ao (qY (U9 T.eU) T.cD T.eU.kC T.eU.ga hr (by rfl) (ao (aq (i:=4)) aP)) (ao (qY (Qp T.eE) T.cH T.eE.kC T.eE.ga hr (by rfl) (ao qw (ao qw aP))) (ao (aco F.excBase_Exception T.uf.inC T.cR T.uf.kC T.cY.ga (by rfl)) aP)))))))))
 (bG (tO pO rfl (Cq (by rfl) T.yG (ao bJ aP)) (mJ (i:=7) nd rfl (by first | exact Or.inl rfl | exact Or.inr rfl)) (bB (jG (DW.dt (JQ (wB (Zx hu) (jX Hf hr (by rfl) T.Nu T.Xy T.sG tk (ao (vK (qF hu) (aq (i:=6)) (aq (i:=7)) (fun _ _=>rfl)) aP)) (ac7 (own:=[("one",8)]) (by rfl) nd (Cq (by rfl) T.yG (ao bJ aP)) (blkOk_by (N:=["script","row","spot","at","other","made","every","k","one"]) (sc:=defScope oh) (own:=[("one",8)]) (by decide +kernel)) (by decide) (fun _ _ _ _ _=>(mJ (i:=8) nd rfl (by first | exact Or.inl rfl | exact Or.inr rfl))) (fun _ _ _ _ _=>aaX) (fun _ _ _ _ _=>(Fv (Dg hu) (aq (i:=8)) (aq (i:=7)) (by rfl)))) (by rfl)) (JQ (jE (jX vI hr (by rfl) T.Dc T.Mr T.ju tk (ao (vK (qF hu) (aq (i:=6)) (aq (i:=7)) (fun _ _=>rfl)) aP))) (JN (yJ (jE (qZ (T:=.ref T.bH) (tv:=.ref T.bH) (List.forall_mem_cons.mpr ⟨⟨T.aF,T.bM,T.cO,T.sJ⟩,(List.forall_mem_cons.mpr ⟨⟨T.aM,T.bY,T.cX,T.uD⟩,(List.forall_mem_cons.mpr ⟨⟨T.aG,T.bO,T.cP,T.sO⟩,(List.forall_mem_cons.mpr ⟨⟨T.aA,T.bD,T.cG,T.sS⟩,(List.forall_mem_cons.mpr ⟨⟨T.aW,T.cD,T.dI,T.uZ⟩,(List.forall_mem_cons.mpr ⟨⟨T.bf,T.cH,T.dJ,T.w6⟩,(List.forall_mem_cons.mpr ⟨⟨T.aO,T.cR,T.cY,T.uE⟩,(fun _ h=>nomatch h)⟩)⟩)⟩)⟩)⟩)⟩)⟩) rfl (by rfl) T.bh (vK (qF hu) (aq (i:=6)) (aq (i:=7)) (fun _ _=>rfl)) (pe_glob (v:=.ref T.bH) (by rfl) T.yW rfl) (fun u h=>h)))))))) (bB (eX vJ)) fZ)))
 (bB (eX (Cp (Ww (jX rE hr (by rfl) T.xQ T.Fp T.gD tk (ao bJ aP))) (Fy (jX rE hr (by rfl) T.xQ T.Fp T.gD tk (ao (cU tK bJ (Gf (j:=1) qQ hr (by rfl) T.vP T.Bc T.jN tk (ao (aq (i:=1)) (ao (aq (i:=2)) (ao bJ aP))))) aP))))))))))))))))
end
theorem rP {K:PySem.W.Frag} {S:Addr} (h1:PySem.W.subIn K (.ref S) (.type "BaseException")=some true) (h2:PySem.W.isClsIn K S=true)
  (h3:PySem.W.typeIn K (.ref S)=some (.type "type")) (h4:PySem.W.subIn K (.ref S) (.ref S)=some true):PySem.W.exmOne K (.ref S) (.ref S)=some true:=by
 have g1:(PySem.W.subIn K (.ref S) (.type "BaseException") == some true)=true:=by rw [h1]; rfl
 have g0:(PySem.W.clsIn K S).isSome=true:=h2
 have g2:((PySem.W.clsIn K S).isSome && PySem.W.typeIn K (.ref S) == some (.type "type"))=true:=by rw [g0,h3]; rfl
 unfold PySem.W.exmOne
 rw [if_pos g1]
 unfold PySem.W.kitCls
 exact (if_pos g2).trans h4
set_option maxHeartbeats 0 in
theorem all_mk {l:PySem.W.OpenLaw} {w:World} {K:PySem.W.Frag} {h:Heap} {mg:Str->Option Value} {fa f0 f1 f2 f3 f4 f5 f6 f7:Addr} (X:K.In h) (G:h.Ns mainGlobals mg) (hfa:mg "law" = some (.ref fa))
  {od0 an0:Option Addr} {sl0:Array (Option Value)} {oc0 kV0 dc0 pm0 cd0 ct0:Value} (a0:PySem.W.nsIn K mainGlobals "_law_so" = some (some (.ref f0))) (l0:K.lookup f0=some ⟨oc0,od0, .func (PySem.W.fnOf "_law_so" "_law_so" (defArgs jj) (defBody jj) (defScope jj) .none kV0 dc0 pm0 an0 cd0 ct0),sl0⟩) (c0:PySem.W.codeIn K cd0 "_law_so" = true) (k0:PySem.W.keepIn K (.ref f0)=true)
  {od1 an1:Option Addr} {sl1:Array (Option Value)} {oc1 kV1 dc1 pm1 cd1 ct1:Value} (a1:PySem.W.nsIn K mainGlobals "_law_numbers" = some (some (.ref f1))) (l1:K.lookup f1=some ⟨oc1,od1, .func (PySem.W.fnOf "_law_numbers" "_law_numbers" (defArgs dD) (defBody dD) (defScope dD) .none kV1 dc1 pm1 an1 cd1 ct1),sl1⟩) (c1:PySem.W.codeIn K cd1 "_law_numbers" = true) (k1:PySem.W.keepIn K (.ref f1)=true)
  {od2 an2:Option Addr} {sl2:Array (Option Value)} {oc2 kV2 dc2 pm2 cd2 ct2:Value} (a2:PySem.W.nsIn K mainGlobals "_law_draw" = some (some (.ref f2))) (l2:K.lookup f2=some ⟨oc2,od2, .func (PySem.W.fnOf "_law_draw" "_law_draw" (defArgs fD) (defBody fD) (defScope fD) .none kV2 dc2 pm2 an2 cd2 ct2),sl2⟩) (c2:PySem.W.codeIn K cd2 "_law_draw" = true) (k2:PySem.W.keepIn K (.ref f2)=true)
  {od3 an3:Option Addr} {sl3:Array (Option Value)} {oc3 kV3 dc3 pm3 cd3 ct3:Value} (a3:PySem.W.nsIn K mainGlobals "_law_take" = some (some (.ref f3))) (l3:K.lookup f3=some ⟨oc3,od3, .func (PySem.W.fnOf "_law_take" "_law_take" (defArgs fG) (defBody fG) (defScope fG) .none kV3 dc3 pm3 an3 cd3 ct3),sl3⟩) (c3:PySem.W.codeIn K cd3 "_law_take" = true) (k3:PySem.W.keepIn K (.ref f3)=true)
  {od4 an4:Option Addr} {sl4:Array (Option Value)} {oc4 kV4 dc4 pm4 cd4 ct4:Value} (a4:PySem.W.nsIn K mainGlobals "_law_of" = some (some (.ref f4))) (l4:K.lookup f4=some ⟨oc4,od4, .func (PySem.W.fnOf "_law_of" "_law_of" (defArgs jk) (defBody jk) (defScope jk) .none kV4 dc4 pm4 an4 cd4 ct4),sl4⟩) (c4:PySem.W.codeIn K cd4 "_law_of" = true) (k4:PySem.W.keepIn K (.ref f4)=true)
  {od5 an5:Option Addr} {sl5:Array (Option Value)} {oc5 kV5 dc5 pm5 cd5 ct5:Value} (a5:PySem.W.nsIn K mainGlobals "_law_foreign" = some (some (.ref f5))) (l5:K.lookup f5=some ⟨oc5,od5, .func (PySem.W.fnOf "_law_foreign" "_law_foreign" (defArgs dF) (defBody dF) (defScope dF) .none kV5 dc5 pm5 an5 cd5 ct5),sl5⟩) (c5:PySem.W.codeIn K cd5 "_law_foreign" = true) (k5:PySem.W.keepIn K (.ref f5)=true)
  {od6 an6:Option Addr} {sl6:Array (Option Value)} {oc6 kV6 dc6 pm6 cd6 ct6:Value} (a6:PySem.W.nsIn K mainGlobals "_law_caught" = some (some (.ref f6))) (l6:K.lookup f6=some ⟨oc6,od6, .func (PySem.W.fnOf "_law_caught" "_law_caught" (defArgs dW) (defBody dW) (defScope dW) .none kV6 dc6 pm6 an6 cd6 ct6),sl6⟩) (c6:PySem.W.codeIn K cd6 "_law_caught" = true) (k6:PySem.W.keepIn K (.ref f6)=true)
  {od7 an7:Option Addr} {sl7:Array (Option Value)} {oc7 kV7 dc7 pm7 cd7 ct7:Value} (a7:PySem.W.nsIn K mainGlobals "law" = some (some (.ref f7))) (l7:K.lookup f7=some ⟨oc7,od7, .func (PySem.W.fnOf "law" "law" (defArgs oh) (defBody oh) (defScope oh) .none kV7 dc7 pm7 an7 cd7 ct7),sl7⟩) (c7:PySem.W.codeIn K cd7 "law" = true) (k7:PySem.W.keepIn K (.ref f7)=true)
  (z0:PySem.W.nsIn K mainGlobals "ArithmeticError" = some none)
  (z1:PySem.W.nsIn K mainGlobals "Exception" = some none)
  (z2:PySem.W.nsIn K mainGlobals "LookupError" = some none)
  (z3:PySem.W.nsIn K mainGlobals "ValueError" = some none)
  (z4:PySem.W.nsIn K mainGlobals "bool" = some none)
  (z5:PySem.W.nsIn K mainGlobals "int" = some none)
  (z6:PySem.W.nsIn K mainGlobals "isinstance" = some none)
  (z7:PySem.W.nsIn K mainGlobals "len" = some none)
  (z8:PySem.W.nsIn K mainGlobals "range" = some none)
  (z9:PySem.W.nsIn K mainGlobals "str" = some none)
  (z10:PySem.W.nsIn K mainGlobals "tuple" = some none)
  {R7 R8:Str} {R9:Addr} {Sd:List Value} {Sq:List Str} {Ss:List Value} {Sv:Bool} {Sw:Option Bool} {Sy:Option Addr} {QX QZ Q5 Q6 Q7:Option Value} {SJ aH Bg:Addr} {SM Q8:Option Addr} {Q9:Array (Option Value)} {Ra Rb Rc Hg Rf:Value}
  (vQ:PySem.W.nsIn K mainGlobals "BadValue" = some (some (.ref aH)))
  (Bh:K.lookup aH=some (excClassObj R7 R8 aH R9 Sd [.ref SJ, .type "Exception", .type "BaseException", .type "object"] true Sq Ss Sv Sw Sy QX QZ Q5 Q6 Q7 "Exception.__new__"))
  (Bj:PySem.W.findIn K (.ref aH) "__setattr__" = some (some (.builtin "object.__setattr__")))
  (vR:PySem.W.findIn K (.ref aH) "__getattribute__" = some (some (.builtin "BaseException.__getattribute__")))
  (vU:PySem.W.findIn K (.ref aH) "__getattr__" = some none)
  (zm:PySem.W.findIn K (.ref aH) "at" = some none)
  (Bl:PySem.W.findIn K (.ref aH) "__init__" = some (some (.ref Bg)))
  (Bm:PySem.W.typeIn K (.ref Bg)=some (.type "function"))
  (Bo:K.lookup Bg=some ⟨Ra,SM, .func (PySem.W.fnOf "__init__" "BadValue.__init__" (PySem.jK.iA ⟨6,17,6,21⟩ ⟨6,23,6,25⟩) (PySem.jK.iB ⟨7,8,7,12⟩ ⟨7,8,7,15⟩ ⟨7,18,7,20⟩ ⟨7,8,7,20⟩) PySem.jK.iS .none .none Rb Rc Q8 Hg Rf),Q9⟩)
  (Bp:PySem.W.codeIn K Hg "BadValue.__init__" = true)
  (Bq:PySem.W.keepIn K (.ref aH)=true)
  (qR:PySem.W.subIn K (.ref aH) (.type "BaseException")=some true)
  (fK:PySem.W.typeIn K (.ref aH)=some (.type "type"))
  (vW:PySem.W.hasDictIn K aH=true)
  (gR:PySem.W.isClsIn K aH=true)
  (fL:PySem.W.subIn K (.ref aH) (.ref aH)=some true)
  {VR V1:Str} {V2:Addr} {V3:List Value} {V4:List Str} {V5:List Value} {V6:Bool} {V7:Option Bool} {V8:Option Addr} {SN SQ S7 S8 S9:Option Value} {V9 aR Ec:Addr} {Wb Td:Option Addr} {Tf:Array (Option Value)} {Tg Tj Tn Jf Tp:Value}
  (yt:PySem.W.nsIn K mainGlobals "BadText" = some (some (.ref aR)))
  (Ef:K.lookup aR=some (excClassObj VR V1 aR V2 V3 [.ref V9, .type "Exception", .type "BaseException", .type "object"] true V4 V5 V6 V7 V8 SN SQ S7 S8 S9 "Exception.__new__"))
  (Eh:PySem.W.findIn K (.ref aR) "__setattr__" = some (some (.builtin "object.__setattr__")))
  (yu:PySem.W.findIn K (.ref aR) "__getattribute__" = some (some (.builtin "BaseException.__getattribute__")))
  (yw:PySem.W.findIn K (.ref aR) "__getattr__" = some none)
  (Br:PySem.W.findIn K (.ref aR) "at" = some none)
  (Ei:PySem.W.findIn K (.ref aR) "__init__" = some (some (.ref Ec)))
  (Ek:PySem.W.typeIn K (.ref Ec)=some (.type "function"))
  (Em:K.lookup Ec=some ⟨Tg,Wb, .func (PySem.W.fnOf "__init__" "BadText.__init__" (PySem.jK.iA ⟨10,17,10,21⟩ ⟨10,23,10,25⟩) (PySem.jK.iB ⟨11,8,11,12⟩ ⟨11,8,11,15⟩ ⟨11,18,11,20⟩ ⟨11,8,11,20⟩) PySem.jK.iS .none .none Tj Tn Td Jf Tp),Tf⟩)
  (En:PySem.W.codeIn K Jf "BadText.__init__" = true)
  (Eo:PySem.W.keepIn K (.ref aR)=true)
  (uJ:PySem.W.subIn K (.ref aR) (.type "BaseException")=some true)
  (gU:PySem.W.typeIn K (.ref aR)=some (.type "type"))
  (yx:PySem.W.hasDictIn K aR=true)
  (jc:PySem.W.isClsIn K aR=true)
  (gW:PySem.W.subIn K (.ref aR) (.ref aR)=some true)
  {Tq Tr:Str} {Tt:Addr} {Tv:List Value} {Tw:List Str} {Tz:List Value} {TF:Bool} {TJ:Option Bool} {TQ:Option Addr} {Rg Rh Ri Rj Rm:Option Value} {TV aJ Bs:Addr} {TX Ro:Option Addr} {Rp:Array (Option Value)} {Rq Rr Ru Hh Rw:Value}
  (vX:PySem.W.nsIn K mainGlobals "BadPaper" = some (some (.ref aJ)))
  (Bt:K.lookup aJ=some (excClassObj Tq Tr aJ Tt Tv [.ref TV, .type "Exception", .type "BaseException", .type "object"] true Tw Tz TF TJ TQ Rg Rh Ri Rj Rm "Exception.__new__"))
  (Bu:PySem.W.findIn K (.ref aJ) "__setattr__" = some (some (.builtin "object.__setattr__")))
  (vY:PySem.W.findIn K (.ref aJ) "__getattribute__" = some (some (.builtin "BaseException.__getattribute__")))
  (vZ:PySem.W.findIn K (.ref aJ) "__getattr__" = some none)
  (zp:PySem.W.findIn K (.ref aJ) "at" = some none)
  (Bv:PySem.W.findIn K (.ref aJ) "__init__" = some (some (.ref Bs)))
  (Bw:PySem.W.typeIn K (.ref Bs)=some (.type "function"))
  (Bx:K.lookup Bs=some ⟨Rq,TX, .func (PySem.W.fnOf "__init__" "BadPaper.__init__" (PySem.jK.iA ⟨14,17,14,21⟩ ⟨14,23,14,25⟩) (PySem.jK.iB ⟨15,8,15,12⟩ ⟨15,8,15,15⟩ ⟨15,18,15,20⟩ ⟨15,8,15,20⟩) PySem.jK.iS .none .none Rr Ru Ro Hh Rw),Rp⟩)
  (BJ:PySem.W.codeIn K Hh "BadPaper.__init__" = true)
  (BK:PySem.W.keepIn K (.ref aJ)=true)
  (qU:PySem.W.subIn K (.ref aJ) (.type "BaseException")=some true)
  (fM:PySem.W.typeIn K (.ref aJ)=some (.type "type"))
  (v5:PySem.W.hasDictIn K aJ=true)
  (gY:PySem.W.isClsIn K aJ=true)
  (fO:PySem.W.subIn K (.ref aJ) (.ref aJ)=some true)
  {T5 T6:Str} {T7:Addr} {T8:List Value} {T9:List Str} {Ua:List Value} {Ub:Bool} {Uc:Option Bool} {Ud:Option Addr} {Rx Ry Rz RB RD:Option Value} {Ue aK BL:Addr} {Ug RG:Option Addr} {RJ:Array (Option Value)} {RK RL RM Hi RN:Value}
  (v7:PySem.W.nsIn K mainGlobals "NotMeant" = some (some (.ref aK)))
  (BP:K.lookup aK=some (excClassObj T5 T6 aK T7 T8 [.ref Ue, .type "Exception", .type "BaseException", .type "object"] true T9 Ua Ub Uc Ud Rx Ry Rz RB RD "Exception.__new__"))
  (BR:PySem.W.findIn K (.ref aK) "__setattr__" = some (some (.builtin "object.__setattr__")))
  (v9:PySem.W.findIn K (.ref aK) "__getattribute__" = some (some (.builtin "BaseException.__getattribute__")))
  (wj:PySem.W.findIn K (.ref aK) "__getattr__" = some none)
  (zq:PySem.W.findIn K (.ref aK) "text" = some none)
  (BW:PySem.W.findIn K (.ref aK) "__init__" = some (some (.ref BL)))
  (BX:PySem.W.typeIn K (.ref BL)=some (.type "function"))
  (BZ:K.lookup BL=some ⟨RK,Ug, .func (PySem.W.fnOf "__init__" "NotMeant.__init__" (PySem.pB.iA ⟨18,17,18,21⟩ ⟨18,23,18,27⟩) (PySem.pB.iB ⟨19,8,19,12⟩ ⟨19,8,19,17⟩ ⟨19,20,19,24⟩ ⟨19,8,19,24⟩) PySem.pB.iS .none .none RL RM RG Hi RN),RJ⟩)
  (Ca:PySem.W.codeIn K Hi "NotMeant.__init__" = true)
  (Cd:PySem.W.keepIn K (.ref aK)=true)
  (qW:PySem.W.subIn K (.ref aK) (.type "BaseException")=some true)
  (fP:PySem.W.typeIn K (.ref aK)=some (.type "type"))
  (wk:PySem.W.hasDictIn K aK=true)
  (g8:PySem.W.isClsIn K aK=true)
  (fQ:PySem.W.subIn K (.ref aK) (.ref aK)=some true)
  {Xz XC:Str} {XD:Addr} {XF:List Value} {XH:List Str} {XJ:List Value} {XM:Bool} {XQ:Option Bool} {XR:Option Addr} {Wc Wd Wf Wg Wh:Option Value} {XS aX Hj:Addr} {X3 Wi:Option Addr} {Wj:Array (Option Value)} {Wl Wm Wn KY Wo:Value}
  (Am:PySem.W.nsIn K mainGlobals "NoWord" = some (some (.ref aX)))
  (Hl:K.lookup aX=some (excClassObj Xz XC aX XD XF [.ref XS, .type "Exception", .type "BaseException", .type "object"] true XH XJ XM XQ XR Wc Wd Wf Wg Wh "Exception.__new__"))
  (Ho:PySem.W.findIn K (.ref aX) "__setattr__" = some (some (.builtin "object.__setattr__")))
  (Ao:PySem.W.findIn K (.ref aX) "__getattribute__" = some (some (.builtin "BaseException.__getattribute__")))
  (Aq:PySem.W.findIn K (.ref aX) "__getattr__" = some none)
  (Ep:PySem.W.findIn K (.ref aX) "word" = some none)
  (Hq:PySem.W.findIn K (.ref aX) "__init__" = some (some (.ref Hj)))
  (Hr:PySem.W.typeIn K (.ref Hj)=some (.type "function"))
  (Ht:K.lookup Hj=some ⟨Wl,X3, .func (PySem.W.fnOf "__init__" "NoWord.__init__" (PySem.pC.iA ⟨22,17,22,21⟩ ⟨22,23,22,27⟩) (PySem.pC.iB ⟨23,8,23,12⟩ ⟨23,8,23,17⟩ ⟨23,20,23,24⟩ ⟨23,8,23,24⟩) PySem.pC.iS .none .none Wm Wn Wi KY Wo),Wj⟩)
  (Hu:PySem.W.codeIn K KY "NoWord.__init__" = true)
  (Hv:PySem.W.keepIn K (.ref aX)=true)
  (xr:PySem.W.subIn K (.ref aX) (.type "BaseException")=some true)
  (jr:PySem.W.typeIn K (.ref aX)=some (.type "type"))
  (Ar:PySem.W.hasDictIn K aX=true)
  (jL:PySem.W.isClsIn K aX=true)
  (jt:PySem.W.subIn K (.ref aX) (.ref aX)=some true)
  {Zg Zh:Str} {Zi:Addr} {Zj:List Value} {Zk:List Str} {Zm:List Value} {Zo:Bool} {Zq:Option Bool} {Zr:Option Addr} {X4 X5 X6 X7 X8:Option Value} {Zt bx Ju:Addr} {Zu Yb:Option Addr} {Yc:Array (Option Value)} {Yd Ye Yg Nz Yh:Value}
  (Es:PySem.W.nsIn K mainGlobals "Mixed" = some (some (.ref bx)))
  (Jv:K.lookup bx=some (excClassObj Zg Zh bx Zi Zj [.ref Zt, .type "Exception", .type "BaseException", .type "object"] true Zk Zm Zo Zq Zr X4 X5 X6 X7 X8 "Exception.__new__"))
  (Jw:PySem.W.findIn K (.ref bx) "__setattr__" = some (some (.builtin "object.__setattr__")))
  (Et:PySem.W.findIn K (.ref bx) "__getattribute__" = some (some (.builtin "BaseException.__getattribute__")))
  (Eu:PySem.W.findIn K (.ref bx) "__getattr__" = some none)
  (Hw:PySem.W.findIn K (.ref bx) "word" = some none)
  (Hz:PySem.W.findIn K (.ref bx) "text" = some none)
  (Jx:PySem.W.findIn K (.ref bx) "__init__" = some (some (.ref Ju)))
  (Jy:PySem.W.typeIn K (.ref Ju)=some (.type "function"))
  (Jz:K.lookup Ju=some ⟨Yd,Zu, .func (PySem.W.fnOf "__init__" "Mixed.__init__" (PySem.fV.iA ⟨26,17,26,21⟩ ⟨26,23,26,27⟩ ⟨26,29,26,33⟩) (PySem.fV.iB ⟨27,8,27,12⟩ ⟨27,8,27,17⟩ ⟨27,20,27,24⟩ ⟨27,8,27,24⟩ ⟨28,8,28,12⟩ ⟨28,8,28,17⟩ ⟨28,20,28,24⟩ ⟨28,8,28,24⟩) PySem.fV.iS .none .none Ye Yg Yb Nz Yh),Yc⟩)
  (JB:PySem.W.codeIn K Nz "Mixed.__init__" = true)
  (JC:PySem.W.keepIn K (.ref bx)=true)
  (zu:PySem.W.subIn K (.ref bx) (.type "BaseException")=some true)
  (jO:PySem.W.typeIn K (.ref bx)=some (.type "type"))
  (Ew:PySem.W.hasDictIn K bx=true)
  (lN:PySem.W.isClsIn K bx=true)
  (jP:PySem.W.subIn K (.ref bx) (.ref bx)=some true)
  {aZ:Addr}
  (yC:PySem.W.nsIn K mainGlobals "TooMany" = some (some (.ref aZ)))
  (Ey:PySem.W.excIn K aZ [.type "Exception", .type "BaseException", .type "object"] "Exception.__new__" = true)
  (Ez:PySem.W.keepIn K (.ref aZ)=true)
  (uK:PySem.W.subIn K (.ref aZ) (.type "BaseException")=some true)
  (ig:PySem.W.typeIn K (.ref aZ)=some (.type "type"))
  (jd:PySem.W.isClsIn K aZ=true)
  (iw:PySem.W.subIn K (.ref aZ) (.ref aZ)=some true)
  {dw:Addr} (zA:PySem.W.nsIn K mainGlobals "SlipError" = some (some (.ref dw))) (fW:PySem.W.isClsIn K dw=true) (bW:PySem.W.typeIn K (.ref dw)=some (.type "type")) (fX:PySem.W.subIn K (.ref dw) (.type "BaseException")=some true) (fY:PySem.W.hasDictIn K dw=true)
  (KZ:PySem.W.specialIn K (.builtin "object.__class__") "__get__" = some (some (.builtin "getset_descriptor.__get__"))) (K6:PySem.W.takesIn K (.builtin "object.__class__")=some true)
  (zB:PySem.W.findIn K (.ref aH) "__class__" = some (some (.builtin "object.__class__"))) (zE:PySem.W.mroIn K aH (.type "object")=some true)
  (mZ:PySem.W.subIn K (.ref aH) (.ref aR)=some false)
  (lO:PySem.W.subIn K (.ref aH) (.ref aJ)=some false)
  (lQ:PySem.W.subIn K (.ref aH) (.ref aK)=some false)
  (oU:PySem.W.subIn K (.ref aH) (.ref aX)=some false)
  (pW:PySem.W.subIn K (.ref aH) (.ref bx)=some false)
  (m7:PySem.W.subIn K (.ref aH) (.ref aZ)=some false)
  (iK:PySem.W.subIn K (.ref aH) (.ref dw)=some true)
  (jQ:PySem.W.subIn K (.ref aH) (.type "ValueError")=some false)
  (jB:PySem.W.subIn K (.ref aH) (.type "LookupError")=some false)
  (iz:PySem.W.subIn K (.ref aH) (.type "ArithmeticError")=some false)
  (j8:PySem.W.subIn K (.ref aH) (.type "Exception")=some true)
  (Ce:PySem.W.findIn K (.ref aR) "__class__" = some (some (.builtin "object.__class__"))) (Cg:PySem.W.mroIn K aR (.type "object")=some true)
  (m9:PySem.W.subIn K (.ref aR) (.ref aH)=some false)
  (nj:PySem.W.subIn K (.ref aR) (.ref aJ)=some false)
  (nq:PySem.W.subIn K (.ref aR) (.ref aK)=some false)
  (pX:PySem.W.subIn K (.ref aR) (.ref aX)=some false)
  (rQ:PySem.W.subIn K (.ref aR) (.ref bx)=some false)
  (oV:PySem.W.subIn K (.ref aR) (.ref aZ)=some false)
  (je:PySem.W.subIn K (.ref aR) (.ref dw)=some true)
  (j9:PySem.W.subIn K (.ref aR) (.type "ValueError")=some false)
  (jR:PySem.W.subIn K (.ref aR) (.type "LookupError")=some false)
  (iW:PySem.W.subIn K (.ref aR) (.type "ArithmeticError")=some false)
  (lU:PySem.W.subIn K (.ref aR) (.type "Exception")=some true)
  (zF:PySem.W.findIn K (.ref aJ) "__class__" = some (some (.builtin "object.__class__"))) (zG:PySem.W.mroIn K aJ (.type "object")=some true)
  (lV:PySem.W.subIn K (.ref aJ) (.ref aH)=some false)
  (nu:PySem.W.subIn K (.ref aJ) (.ref aR)=some false)
  (lW:PySem.W.subIn K (.ref aJ) (.ref aK)=some false)
  (oW:PySem.W.subIn K (.ref aJ) (.ref aX)=some false)
  (pY:PySem.W.subIn K (.ref aJ) (.ref bx)=some false)
  (nD:PySem.W.subIn K (.ref aJ) (.ref aZ)=some false)
  (iQ:PySem.W.subIn K (.ref aJ) (.ref dw)=some true)
  (jT:PySem.W.subIn K (.ref aJ) (.type "ValueError")=some false)
  (jC:PySem.W.subIn K (.ref aJ) (.type "LookupError")=some false)
  (iD:PySem.W.subIn K (.ref aJ) (.type "ArithmeticError")=some false)
  (kh:PySem.W.subIn K (.ref aJ) (.type "Exception")=some true)
  (zH:PySem.W.findIn K (.ref aK) "__class__" = some (some (.builtin "object.__class__"))) (zJ:PySem.W.mroIn K aK (.type "object")=some true)
  (lX:PySem.W.subIn K (.ref aK) (.ref aH)=some false)
  (nH:PySem.W.subIn K (.ref aK) (.ref aR)=some false)
  (lY:PySem.W.subIn K (.ref aK) (.ref aJ)=some false)
  (oX:PySem.W.subIn K (.ref aK) (.ref aX)=some false)
  (pZ:PySem.W.subIn K (.ref aK) (.ref bx)=some false)
  (nJ:PySem.W.subIn K (.ref aK) (.ref aZ)=some false)
  (iU:PySem.W.subIn K (.ref aK) (.ref dw)=some true)
  (jU:PySem.W.subIn K (.ref aK) (.type "ValueError")=some false)
  (jD:PySem.W.subIn K (.ref aK) (.type "LookupError")=some false)
  (iG:PySem.W.subIn K (.ref aK) (.type "ArithmeticError")=some false)
  (kJ:PySem.W.subIn K (.ref aK) (.type "Exception")=some true)
  (EY:PySem.W.findIn K (.ref aX) "__class__" = some (some (.builtin "object.__class__"))) (Fb:PySem.W.mroIn K aX (.type "object")=some true)
  (oY:PySem.W.subIn K (.ref aX) (.ref aH)=some false)
  (qb:PySem.W.subIn K (.ref aX) (.ref aR)=some false)
  (oZ:PySem.W.subIn K (.ref aX) (.ref aJ)=some false)
  (o7:PySem.W.subIn K (.ref aX) (.ref aK)=some false)
  (uL:PySem.W.subIn K (.ref aX) (.ref bx)=some false)
  (qd:PySem.W.subIn K (.ref aX) (.ref aZ)=some false)
  (jA:PySem.W.subIn K (.ref aX) (.ref dw)=some true)
  (lZ:PySem.W.subIn K (.ref aX) (.type "ValueError")=some false)
  (kW:PySem.W.subIn K (.ref aX) (.type "LookupError")=some false)
  (jf:PySem.W.subIn K (.ref aX) (.type "ArithmeticError")=some false)
  (nM:PySem.W.subIn K (.ref aX) (.type "Exception")=some true)
  (HD:PySem.W.findIn K (.ref bx) "__class__" = some (some (.builtin "object.__class__"))) (HF:PySem.W.mroIn K bx (.type "object")=some true)
  (qj:PySem.W.subIn K (.ref bx) (.ref aH)=some false)
  (rR:PySem.W.subIn K (.ref bx) (.ref aR)=some false)
  (ql:PySem.W.subIn K (.ref bx) (.ref aJ)=some false)
  (qm:PySem.W.subIn K (.ref bx) (.ref aK)=some false)
  (uM:PySem.W.subIn K (.ref bx) (.ref aX)=some false)
  (rW:PySem.W.subIn K (.ref bx) (.ref aZ)=some false)
  (jM:PySem.W.subIn K (.ref bx) (.ref dw)=some true)
  (nO:PySem.W.subIn K (.ref bx) (.type "ValueError")=some false)
  (mj:PySem.W.subIn K (.ref bx) (.type "LookupError")=some false)
  (jy:PySem.W.subIn K (.ref bx) (.type "ArithmeticError")=some false)
  (o9:PySem.W.subIn K (.ref bx) (.type "Exception")=some true)
  (Fd:PySem.W.findIn K (.ref aZ) "__getattribute__" = some (some (.builtin "BaseException.__getattribute__"))) (Fe:PySem.W.findIn K (.ref aZ) "__getattr__" = some none) (Fg:PySem.W.hasDictIn K aZ=true)
  (Ci:PySem.W.findIn K (.ref aZ) "__class__" = some (some (.builtin "object.__class__"))) (Cj:PySem.W.mroIn K aZ (.type "object")=some true)
  (nQ:PySem.W.subIn K (.ref aZ) (.ref aH)=some false)
  (pq:PySem.W.subIn K (.ref aZ) (.ref aR)=some false)
  (nR:PySem.W.subIn K (.ref aZ) (.ref aJ)=some false)
  (nU:PySem.W.subIn K (.ref aZ) (.ref aK)=some false)
  (qp:PySem.W.subIn K (.ref aZ) (.ref aX)=some false)
  (rY:PySem.W.subIn K (.ref aZ) (.ref bx)=some false)
  (jg:PySem.W.subIn K (.ref aZ) (.ref dw)=some true)
  (kY:PySem.W.subIn K (.ref aZ) (.type "ValueError")=some false)
  (jV:PySem.W.subIn K (.ref aZ) (.type "LookupError")=some false)
  (iY:PySem.W.subIn K (.ref aZ) (.type "ArithmeticError")=some false)
  (mD:PySem.W.subIn K (.ref aZ) (.type "Exception")=some true) :
  ∃ fd:FuncData,(∀ (s:Shared) (v:Value),BindsTo s fd ⟨[v],[]⟩ [("script",v)])/\∀ base:Heap,K.In base->base.Ns mainGlobals mg->FnOk l.prog w K mg base (L2.CX l.prog w) 21 fa fd ["script"] (Qe K):=by
 have e:=hfa.symm.trans (PySem.W.mg_of X G a7)
 cases e
 have F0:=fun_mk (st:=jj) l0 c0 k0
 have b0:=F0.binds (ps:=["found","wanted"]) fun _ _ _ _ _ _ us hl=>match us,hl with | [_,_],_=>rfl
 have F1:=fun_mk (st:=dD) l1 c1 k1
 have b1:=F1.binds (ps:=["script"]) fun _ _ _ _ _ _ us hl=>match us,hl with | [_],_=>rfl
 have F2:=fun_mk (st:=fD) l2 c2 k2
 have b2:=F2.binds (ps:=["row","at","limit"]) fun _ _ _ _ _ _ us hl=>match us,hl with | [_,_,_],_=>rfl
 have F3:=fun_mk (st:=fG) l3 c3 k3
 have b3:=F3.binds (ps:=["row","spot","limit"]) fun _ _ _ _ _ _ us hl=>match us,hl with | [_,_,_],_=>rfl
 have F4:=fun_mk (st:=jk) l4 c4 k4
 have b4:=F4.binds (ps:=["value"]) fun _ _ _ _ _ _ us hl=>match us,hl with | [_],_=>rfl
 have F5:=fun_mk (st:=dF) l5 c5 k5
 have b5:=F5.binds (ps:=["value"]) fun _ _ _ _ _ _ us hl=>match us,hl with | [_],_=>rfl
 have F6:=fun_mk (st:=dW) l6 c6 k6
 have b6:=F6.binds (ps:=["at"]) fun _ _ _ _ _ _ us hl=>match us,hl with | [_],_=>rfl
 have F7:=fun_mk (st:=oh) l7 c7 k7
 have b7:=F7.binds (ps:=["script"]) fun _ _ _ _ _ _ us hl=>match us,hl with | [_],_=>rfl
 let T:Txt K mg:={
  jm:=_,wM:=_,sH:=PySem.W.mg_of X G a0,G5:=F0,gj:=b0,
  dG:=_,j6:=_,CZ:=PySem.W.mg_of X G a1,vD:=F1,j5:=b1,
  fH:=_,qJ:=_,Ja:=PySem.W.mg_of X G a2,Ba:=F2,qG:=b2,
  fJ:=_,qK:=_,vP:=PySem.W.mg_of X G a3,Bb:=F3,jN:=b3,
  jo:=_,wN:=_,Nu:=PySem.W.mg_of X G a4,G7:=F4,sG:=b4,
  dH:=_,j7:=_,Dc:=PySem.W.mg_of X G a5,vG:=F5,ju:=b5,
  dX:=_,mF:=_,xQ:=PySem.W.mg_of X G a6,xR:=F6,gD:=b6,
  Ai:=_,Oi:=_,adP:=PySem.W.mg_of X G a7,aaI:=F7,Ku:=b7,
  xU:=PySem.W.mg_none_of X G z0,
  Jb:=PySem.W.mg_none_of X G z1,
  Fo:=PySem.W.mg_none_of X G z2,
  G8:=PySem.W.mg_none_of X G z3,
  G9:=PySem.W.mg_none_of X G z4,
  tZ:=PySem.W.mg_none_of X G z5,
  bh:=PySem.W.mg_none_of X G z6,
  Eb:=PySem.W.mg_none_of X G z7,
  yG:=PySem.W.mg_none_of X G z8,
  VN:=PySem.W.mg_none_of X G z9,
  Mp:=PySem.W.mg_none_of X G z10,
  aF:=_,Kz:=_,dR:={ gC:=PySem.W.mg_of X G vQ,cls:=⟨_,_,_,_,_,_,_,_,_,_,_,_,_,_,_,Bh,⟨_,rfl⟩⟩,sa:=Bj,ga:=vR,gg:=vU,pJ:=zm,iC:=Bl,tC:=Bm,kC:=Bq,exC:=qR,tyC:=fK,hdC:=vW,te:=rP qR gR fK fL,fn:=⟨_,_,_,_,_,_,_,_,_,_,_,_,_,_,Bo,Bp⟩ },
  aM:=_,Nv:=_,eG:={ gC:=PySem.W.mg_of X G yt,cls:=⟨_,_,_,_,_,_,_,_,_,_,_,_,_,_,_,Ef,⟨_,rfl⟩⟩,sa:=Eh,ga:=yu,gg:=yw,pJ:=Br,iC:=Ei,tC:=Ek,kC:=Eo,exC:=uJ,tyC:=gU,hdC:=yx,te:=rP uJ jc gU gW,fn:=⟨_,_,_,_,_,_,_,_,_,_,_,_,_,_,Em,En⟩ },
  aG:=_,KC:=_,dU:={ gC:=PySem.W.mg_of X G vX,cls:=⟨_,_,_,_,_,_,_,_,_,_,_,_,_,_,_,Bt,⟨_,rfl⟩⟩,sa:=Bu,ga:=vY,gg:=vZ,pJ:=zp,iC:=Bv,tC:=Bw,kC:=BK,exC:=qU,tyC:=fM,hdC:=v5,te:=rP qU gY fM fO,fn:=⟨_,_,_,_,_,_,_,_,_,_,_,_,_,_,Bx,BJ⟩ },
  aA:=_,KD:=_,bV:={ gC:=PySem.W.mg_of X G v7,cls:=⟨_,_,_,_,_,_,_,_,_,_,_,_,_,_,_,BP,⟨_,rfl⟩⟩,sa:=BR,ga:=v9,gg:=wj,pJ:=zq,iC:=BW,tC:=BX,kC:=Cd,exC:=qW,tyC:=fP,hdC:=wk,te:=rP qW g8 fP fQ,fn:=⟨_,_,_,_,_,_,_,_,_,_,_,_,_,_,BZ,Ca⟩ },
  aW:=_,QS:=_,eU:={ gC:=PySem.W.mg_of X G Am,cls:=⟨_,_,_,_,_,_,_,_,_,_,_,_,_,_,_,Hl,⟨_,rfl⟩⟩,sa:=Ho,ga:=Ao,gg:=Aq,pJ:=Ep,iC:=Hq,tC:=Hr,kC:=Hv,exC:=xr,tyC:=jr,hdC:=Ar,te:=rP xr jL jr jt,fn:=⟨_,_,_,_,_,_,_,_,_,_,_,_,_,_,Ht,Hu⟩ },
  bf:=_,Vf:=_,eE:={ gC:=PySem.W.mg_of X G Es,cls:=⟨_,_,_,_,_,_,_,_,_,_,_,_,_,_,_,Jv,⟨_,rfl⟩⟩,sa:=Jw,ga:=Et,gg:=Eu,pJ:=Hw,ZW:=Hz,iC:=Jx,tC:=Jy,kC:=JC,exC:=zu,tyC:=jO,hdC:=Ew,te:=rP zu lN jO jP,fn:=⟨_,_,_,_,_,_,_,_,_,_,_,_,_,_,_,_,_,_,_,Jz,JB⟩ },
  aO:=_,uf:={ gC:=PySem.W.mg_of X G yC,kC:=Ez,inC:=Ey,exC:=uK,tyC:=ig,te:=rP uK jd ig iw },
  bH:=_,yW:=PySem.W.mg_of X G zA,
  bM:=PySem.W.mg_of X G vQ,cO:=⟨vR,vU,qR,vW,zB,KZ,K6,zE⟩,Jc:=PySem.W.exm_ref fX fY bW iK,
  ug:=rO (C:=aH),
  uP:=aV mZ jc gU fL,
  uw:=aV lO gY fM fL,
  lJ:=aV lQ g8 fP fL,
  wV:=aV oU jL jr fL,
  yc:=aV pW lN jO fL,
  uW:=aV m7 jd ig fL,
  sJ:=aV iK fW bW fL,
  qL:=cQ jQ (by decide +kernel),
  pK:=cQ jB (by decide +kernel),
  lC:=cQ iz (by decide +kernel),
  sX:=cQ j8 (by decide +kernel),
  bY:=PySem.W.mg_of X G yt,cX:=⟨yu,yw,uJ,yx,Ce,KZ,K6,Cg⟩,KH:=PySem.W.exm_ref fX fY bW je,
  uN:=aV m9 gR fK gW,
  wQ:=rO (C:=aR),
  uU:=aV nj gY fM gW,
  mX:=aV nq g8 fP gW,
  xY:=aV pX jL jr gW,
  za:=aV rQ lN jO gW,
  wY:=aV oV jd ig gW,
  uD:=aV je fW bW gW,
  sU:=cQ j9 (by decide +kernel),
  qO:=cQ jR (by decide +kernel),
  mG:=cQ iW (by decide +kernel),
  uH:=cQ lU (by decide +kernel),
  bO:=PySem.W.mg_of X G vX,cP:=⟨vY,vZ,qU,v5,zF,KZ,K6,zG⟩,Jd:=PySem.W.exm_ref fX fY bW iQ,
  uh:=aV lV gR fK fO,
  uQ:=aV nu jc gU fO,
  ux:=rO (C:=aJ),
  lK:=aV lW g8 fP fO,
  wW:=aV oW jL jr fO,
  yd:=aV pY lN jO fO,
  uX:=aV nD jd ig fO,
  sO:=aV iQ fW bW fO,
  qM:=cQ jT (by decide +kernel),
  pN:=cQ jC (by decide +kernel),
  lD:=cQ iD (by decide +kernel),
  sY:=cQ kh (by decide +kernel),
  bD:=PySem.W.mg_of X G v7,cG:=⟨v9,wj,qW,wk,zH,KZ,K6,zJ⟩,Je:=PySem.W.exm_ref fX fY bW iU,
  uo:=aV lX gR fK fQ,
  uR:=aV nH jc gU fQ,
  uz:=aV lY gY fM fQ,
  lM:=rO (C:=aK),
  wX:=aV oX jL jr fQ,
  yg:=aV pZ lN jO fQ,
  uY:=aV nJ jd ig fQ,
  sS:=aV iU fW bW fQ,
  qN:=cQ jU (by decide +kernel),
  pP:=cQ jD (by decide +kernel),
  lE:=cQ iG (by decide +kernel),
  tE:=cQ kJ (by decide +kernel),
  cD:=PySem.W.mg_of X G Am,dI:=⟨Ao,Aq,xr,Ar,EY,KZ,K6,Fb⟩,Ny:=PySem.W.exm_ref fX fY bW jA,
  wO:=aV oY gR fK jt,
  xW:=aV qb jc gU jt,
  wU:=aV oZ gY fM jt,
  oO:=aV o7 g8 fP jt,
  yZ:=rO (C:=aX),
  Ak:=aV uL lN jO jt,
  yh:=aV qd jd ig jt,
  uZ:=aV jA fW bW jt,
  uF:=cQ lZ (by decide +kernel),
  sW:=cQ kW (by decide +kernel),
  ou:=cQ jf (by decide +kernel),
  u6:=cQ nM (by decide +kernel),
  cH:=PySem.W.mg_of X G Es,dJ:=⟨Et,Eu,zu,Ew,HD,KZ,K6,HF⟩,QT:=PySem.W.exm_ref fX fY bW jM,
  xV:=aV qj gR fK jP,
  yX:=aV rR jc gU jP,
  xX:=aV ql gY fM jP,
  pU:=aV qm g8 fP jP,
  Aj:=aV uM jL jr jP,
  Dd:=rO (C:=bx),
  zj:=aV rW jd ig jP,
  w6:=aV jM fW bW jP,
  u5:=cQ nO (by decide +kernel),
  uG:=cQ mj (by decide +kernel),
  oR:=cQ jy (by decide +kernel),
  xg:=cQ o9 (by decide +kernel),
  cR:=PySem.W.mg_of X G yC,cY:=⟨Fd,Fe,uK,Fg,Ci,KZ,K6,Cj⟩,KJ:=PySem.W.exm_ref fX fY bW jg,
  uO:=aV nQ gR fK iw,
  wR:=aV pq jc gU iw,
  uV:=aV nR gY fM iw,
  mY:=aV nU g8 fP iw,
  xZ:=aV qp jL jr iw,
  zf:=aV rY lN jO iw,
  wZ:=rO (C:=aZ),
  uE:=aV jg fW bW iw,
  sV:=cQ kY (by decide +kernel),
  qP:=cQ jV (by decide +kernel),
  mH:=cQ iY (by decide +kernel),
  uI:=cQ mD (by decide +kernel) }
 refine ⟨PySem.W.fnOf "law" "law" (defArgs oh) (defBody oh) (defScope oh) .none kV7 dc7 pm7 an7 cd7 ct7,fun s v => .of_eq rfl,fun base _ _=>?_⟩
 have tG:=KN (P:=l.prog) (w:=w) (base:=base) (m:=0) T 20
 have vH:=KQ (P:=l.prog) (w:=w) (base:=base) (k:=0) T
 have Bf:=QV (P:=l.prog) (w:=w) (base:=base) (k:=0) T
 have qQ:=QW (P:=l.prog) (w:=w) (base:=base) (k:=1) T (Bf.mono (by decide))
 have Hf:=VP (P:=l.prog) (w:=w) (base:=base) (k:=0) T
 have vI:=KR (P:=l.prog) (w:=w) (base:=base) (k:=0) T
 have rE:=Ms (P:=l.prog) (w:=w) (base:=base) (k:=0) T
 have adQ:=acV (P:=l.prog) (w:=w) (base:=base) (k:=19) T (vH.mono (by decide)) (qQ.mono (by decide)) (rE.mono (by decide)) (tG.mono (by decide)) (vI.mono (by decide)) (Hf.mono (by decide))
 exact abn adQ Zf
end Va
open PySem PySem.W PyProof.Rows
set_option maxHeartbeats 0 in
theorem PySem.Challenge.cw_slipworth_k00_errors_holds : PySem.Challenge.rw_slipworth_k00_errors.Holds := by
 w_on; o_law; k_head; (case hw=>w_witness2)
 k_fill
 refine L2.walk_of (l:=PySem.Challenge.rw_slipworth_k00_errors) (n:=63) (k:=21) (x:="script") (CX:=fun w=>L2.CX PySem.Challenge.rw_slipworth_k00_errors.prog w) (sp:=fun w=>DL.Qe _) rfl (by decide) rfl ⟨rfl,by decide,by decide⟩ (fun w h Y=>PySem.W.kIn_of Y) ?F (fun _ _ a ns hl _ hS=>⟨a,ns,rfl,hS,fun _=>rfl⟩) ?aeV
 case F=>
  intro w mg fa h KX G hmg
  refine' Va.all_mk KX G hmg ?a0 ?l0 ?c0 ?k0 ?a1 ?l1 ?c1 ?k1 ?a2 ?l2 ?c2 ?k2 ?a3 ?l3 ?c3 ?k3 ?a4 ?l4 ?c4 ?k4 ?a5 ?l5 ?c5 ?k5 ?a6 ?l6 ?c6 ?k6 ?a7 ?l7 ?c7 ?k7 ?z0 ?z1 ?z2 ?z3 ?z4 ?z5 ?z6 ?z7 ?z8 ?z9 ?z10 ?vQ ?Bh ?Bj ?vR ?vU ?zm ?Bl ?Bm ?Bo ?Bp ?Bq ?qR ?fK ?vW ?gR ?fL ?yt ?Ef ?Eh ?yu ?yw ?Br ?Ei ?Ek ?Em ?En ?Eo ?uJ ?gU ?yx ?jc ?gW ?vX ?Bt ?Bu ?vY ?vZ ?zp ?Bv ?Bw ?Bx ?BJ ?BK ?qU ?fM ?v5 ?gY ?fO ?v7 ?BP ?BR ?v9 ?wj ?zq ?BW ?BX ?BZ ?Ca ?Cd ?qW ?fP ?wk ?g8 ?fQ ?Am ?Hl ?Ho ?Ao ?Aq ?Ep ?Hq ?Hr ?Ht ?Hu ?Hv ?xr ?jr ?Ar ?jL ?jt ?Es ?Jv ?Jw ?Et ?Eu ?Hw ?Hz ?Jx ?Jy ?Jz ?JB ?JC ?zu ?jO ?Ew ?lN ?jP ?yC ?Ey ?Ez ?uK ?ig ?jd ?iw ?zA ?fW ?bW ?fX ?fY ?KZ ?K6 ?zB ?zE ?mZ ?lO ?lQ ?oU ?pW ?m7 ?iK ?jQ ?jB ?iz ?j8 ?Ce ?Cg ?m9 ?nj ?nq ?pX ?rQ ?oV ?je ?j9 ?jR ?iW ?lU ?zF ?zG ?lV ?nu ?lW ?oW ?pY ?nD ?iQ ?jT ?jC ?iD ?kh ?zH ?zJ ?lX ?nH ?lY ?oX ?pZ ?nJ ?iU ?jU ?jD ?iG ?kJ ?EY ?Fb ?oY ?qb ?oZ ?o7 ?uL ?qd ?jA ?lZ ?kW ?jf ?nM ?HD ?HF ?qj ?rR ?ql ?qm ?uM ?rW ?jM ?nO ?mj ?jy ?o9 ?Fd ?Fe ?Fg ?Ci ?Cj ?nQ ?pq ?nR ?nU ?qp ?rY ?jg ?kY ?jV ?iY ?mD
  (case a0=>k_is)
  (case l0=>k_is)
  (case c0=>k_is)
  (case k0=>k_is)
  (case a1=>k_is)
  (case l1=>k_is)
  (case c1=>k_is)
  (case k1=>k_is)
  (case a2=>k_is)
  (case l2=>k_is)
  (case c2=>k_is)
  (case k2=>k_is)
  (case a3=>k_is)
  (case l3=>k_is)
  (case c3=>k_is)
  (case k3=>k_is)
  (case a4=>k_is)
  (case l4=>k_is)
  (case c4=>k_is)
  (case k4=>k_is)
  (case a5=>k_is)
  (case l5=>k_is)
  (case c5=>k_is)
  (case k5=>k_is)
  (case a6=>k_is)
  (case l6=>k_is)
  (case c6=>k_is)
  (case k6=>k_is)
  (case a7=>k_is)
  (case l7=>k_is)
  (case c7=>k_is)
  (case k7=>k_is)
  (case z0=>k_is)
  (case z1=>k_is)
  (case z2=>k_is)
  (case z3=>k_is)
  (case z4=>k_is)
  (case z5=>k_is)
  (case z6=>k_is)
  (case z7=>k_is)
  (case z8=>k_is)
  (case z9=>k_is)
  (case z10=>k_is)
  (case vQ=>k_is)
  (case Bh=>k_is)
  (case Bj=>k_is)
  (case vR=>k_is)
  (case vU=>k_is)
  (case zm=>k_is)
  (case Bl=>k_is)
  (case Bm=>k_is)
  (case Bo=>k_is)
  (case Bp=>k_is)
  (case Bq=>k_is)
  (case qR=>k_is)
  (case fK=>k_is)
  (case vW=>k_is)
  (case gR=>k_is)
  (case fL=>first | rfl | k_is)
  (case yt=>k_is)
  (case Ef=>k_is)
  (case Eh=>k_is)
  (case yu=>k_is)
  (case yw=>k_is)
  (case Br=>k_is)
  (case Ei=>k_is)
  (case Ek=>k_is)
  (case Em=>k_is)
  (case En=>k_is)
  (case Eo=>k_is)
  (case uJ=>k_is)
  (case gU=>k_is)
  (case yx=>k_is)
  (case jc=>k_is)
  (case gW=>first | rfl | k_is)
  (case vX=>k_is)
  (case Bt=>k_is)
  (case Bu=>k_is)
  (case vY=>k_is)
  (case vZ=>k_is)
  (case zp=>k_is)
  (case Bv=>k_is)
  (case Bw=>k_is)
  (case Bx=>k_is)
  (case BJ=>k_is)
  (case BK=>k_is)
  (case qU=>k_is)
  (case fM=>k_is)
  (case v5=>k_is)
  (case gY=>k_is)
  (case fO=>first | rfl | k_is)
  (case v7=>k_is)
  (case BP=>k_is)
  (case BR=>k_is)
  (case v9=>k_is)
  (case wj=>k_is)
  (case zq=>k_is)
  (case BW=>k_is)
  (case BX=>k_is)
  (case BZ=>k_is)
  (case Ca=>k_is)
  (case Cd=>k_is)
  (case qW=>k_is)
  (case fP=>k_is)
  (case wk=>k_is)
  (case g8=>k_is)
  (case fQ=>first | rfl | k_is)
  (case Am=>k_is)
  (case Hl=>k_is)
  (case Ho=>k_is)
  (case Ao=>k_is)
  (case Aq=>k_is)
  (case Ep=>k_is)
  (case Hq=>k_is)
  (case Hr=>k_is)
  (case Ht=>k_is)
  (case Hu=>k_is)
  (case Hv=>k_is)
  (case xr=>k_is)
  (case jr=>k_is)
  (case Ar=>k_is)
  (case jL=>k_is)
  (case jt=>first | rfl | k_is)
  (case Es=>k_is)
  (case Jv=>k_is)
  (case Jw=>k_is)
  (case Et=>k_is)
  (case Eu=>k_is)
  (case Hw=>k_is)
  (case Hz=>k_is)
  (case Jx=>k_is)
  (case Jy=>k_is)
  (case Jz=>k_is)
  (case JB=>k_is)
  (case JC=>k_is)
  (case zu=>k_is)
  (case jO=>k_is)
  (case Ew=>k_is)
  (case lN=>k_is)
  (case jP=>first | rfl | k_is)
  (case yC=>k_is)
  (case Ey=>k_exc)
  (case Ez=>k_is)
  (case uK=>k_is)
  (case ig=>k_is)
  (case jd=>k_is)
  (case iw=>first | rfl | k_is)
  (case zA=>k_is)
  (case fW=>k_is)
  (case bW=>k_is)
  (case fX=>k_is)
  (case fY=>k_is)
  (case KZ=>k_is)
  (case K6=>k_is)
  (case zB=>k_is)
  (case zE=>k_is)
  (case mZ=>k_is)
  (case lO=>k_is)
  (case lQ=>k_is)
  (case oU=>k_is)
  (case pW=>k_is)
  (case m7=>k_is)
  (case iK=>k_is)
  (case jQ=>k_is)
  (case jB=>k_is)
  (case iz=>k_is)
  (case j8=>k_is)
  (case Ce=>k_is)
  (case Cg=>k_is)
  (case m9=>k_is)
  (case nj=>k_is)
  (case nq=>k_is)
  (case pX=>k_is)
  (case rQ=>k_is)
  (case oV=>k_is)
  (case je=>k_is)
  (case j9=>k_is)
  (case jR=>k_is)
  (case iW=>k_is)
  (case lU=>k_is)
  (case zF=>k_is)
  (case zG=>k_is)
  (case lV=>k_is)
  (case nu=>k_is)
  (case lW=>k_is)
  (case oW=>k_is)
  (case pY=>k_is)
  (case nD=>k_is)
  (case iQ=>k_is)
  (case jT=>k_is)
  (case jC=>k_is)
  (case iD=>k_is)
  (case kh=>k_is)
  (case zH=>k_is)
  (case zJ=>k_is)
  (case lX=>k_is)
  (case nH=>k_is)
  (case lY=>k_is)
  (case oX=>k_is)
  (case pZ=>k_is)
  (case nJ=>k_is)
  (case iU=>k_is)
  (case jU=>k_is)
  (case jD=>k_is)
  (case iG=>k_is)
  (case kJ=>k_is)
  (case EY=>k_is)
  (case Fb=>k_is)
  (case oY=>k_is)
  (case qb=>k_is)
  (case oZ=>k_is)
  (case o7=>k_is)
  (case uL=>k_is)
  (case qd=>k_is)
  (case jA=>k_is)
  (case lZ=>k_is)
  (case kW=>k_is)
  (case jf=>k_is)
  (case nM=>k_is)
  (case HD=>k_is)
  (case HF=>k_is)
  (case qj=>k_is)
  (case rR=>k_is)
  (case ql=>k_is)
  (case qm=>k_is)
  (case uM=>k_is)
  (case rW=>k_is)
  (case jM=>k_is)
  (case nO=>k_is)
  (case mj=>k_is)
  (case jy=>k_is)
  (case o9=>k_is)
  (case Fd=>k_is)
  (case Fe=>k_is)
  (case Fg=>k_is)
  (case Ci=>k_is)
  (case Cj=>k_is)
  (case nQ=>k_is)
  (case pq=>k_is)
  (case nR=>k_is)
  (case nU=>k_is)
  (case qp=>k_is)
  (case rY=>k_is)
  (case jg=>k_is)
  (case kY=>k_is)
  (case jV=>k_is)
  (case iY=>k_is)
  (case mD=>k_is)
 case aeV=>exact fun _ _ _ _ _ ⟨_,_,_,_,_,_,_,_,_,_,_,_,h⟩=>h
