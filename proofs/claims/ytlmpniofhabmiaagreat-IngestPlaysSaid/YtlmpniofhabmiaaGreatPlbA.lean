/- A part of the proof of the theorem that this claim hands in: merged and shortened by small programs out of texts of my own. -/
import Derived.KernelRfl
import Derived.Laws.Sem
import Derived.Laws.World
import Derived.Orders
import Derived.Laws.Strings
import Derived.Scope
import Derived.OrdersHeld
import Derived.Test.YtlmpniofhabmiaaGreatProg
import Derived.Laws.BytesString
import Derived.Laws.RangeString
import Derived.Lib.ConvBytes
import Derived.Laws.IdiomRangeMap
set_option linter.unusedVariables false
set_option linter.unusedSimpArgs false
set_option linter.unusedSectionVars false
namespace Go.Vc
open Go Go.Proofs
noncomputable abbrev Zz:Program:=Tryz.prog
def rg:Nat->Nat->List Nat|_,0=>[]|a,n+1=>a::rg (a+1) n
abbrev Ad(a:Option Addr)(n:Int)(k:Nat)(Q:Addr->Prop):Prop:=∃d,a=some d/\0<=n/\n<(k:Int)/\Q d
abbrev pK(k:Nat):Value:=.pointer (some ⟨k,0,none⟩)
abbrev sK(k n c:Nat):Value:=.slice (some ⟨k,0,none⟩) n c
abbrev iv(n:Int):Value:=.int .i64 n
abbrev bv(b:Bool):Value:=.bool b
abbrev LP:=List Value->World->Prop
abbrev LM:=List Value->World->Nat
theorem v1{k:IntKind}{a b:Int}(h:[Value.int k a]=[.int k b]):a=b:=by simpa using h
end Go.Vc
namespace Go.Vc
open Go
structure KpL (l:List Nat) (w w':World):Prop where
 os:w'.os=w.os
 tape:w'.tape=w.tape
 output:w'.output=w.output
 drawn:w.drawn<=w'.drawn
 size:w.heap.size<=w'.heap.size
 blk:∀b,b<w.heap.size->b∉l->w'.heap[b]?=w.heap[b]?
structure ao (w:World) (a:Addr) (l:List Value):Prop where
 at_:∀i v,l[i]?=some v->w.cell? (a.add i)=some v
def bL(w:World)(a:Addr):List Value->Nat->World
 |[],_=>w
 |v::r,i=>bL (w.setCell (a.add i) v) a r (i+1)
abbrev Hb(w:World)(k:Nat)(c:Array Value)(T:TypeId):Prop:=w.heap[k]?=some (.cells c T (0,0))
inductive C where
 |v (x:Value)
 |pt (a:Option Addr)
 |sb (b:Bool)
 |sp (p:Prop) (d:Decidable p)
 |loc (i off:Nat)
 |lsl (i off len cap:Nat)
inductive A where
 |c (x:C)
 |agg (l:List C)
 |agx (l:List Value)
inductive V where
 |a (x:A)
 |tup (l:List A)
 |j
def C.den(ρ:List Nat):C->Value
 |.v x=>x
 |.pt a=>.pointer a
 |.sb b=>.bool b
 |.sp p d=>.bool (@decide p d)
 |.loc i off=>.pointer (some ⟨ρ.getD i 0,off,none⟩)
 |.lsl i off len cap=>.slice (some ⟨ρ.getD i 0,off,none⟩) len cap
def bJ(ρ:List Nat):List C->List Value
 |[]=>[]
 |c::r=>c.den ρ::bJ ρ r
def A.den(ρ:List Nat):A->Value
 |.c x=>x.den ρ
 |.agg l=>.agg (bJ ρ l).toArray
 |.agx l=>.agg l.toArray
def qB(ρ:List Nat):A->List Value
 |.c x=>[x.den ρ]
 |.agg l=>bJ ρ l
 |.agx l=>l
def fg(ρ:List Nat):List A->List Value
 |[]=>[]
 |c::r=>c.den ρ::fg ρ r
def V.den(ρ:List Nat):V->Value
 |.a x=>x.den ρ
 |.tup l=>.tuple (fg ρ l).toArray
 |.j=>undef
def C.bd(n:Nat):C->Prop
 |.loc i _=>i<n
 |.lsl i _ _ _=>i<n
 |_=>True
def lj(n:Nat)(l:List C):Prop:=∀c∈l,c.bd n
def A.bd(n:Nat):A->Prop
 |.c x=>x.bd n
 |.agg l=>lj n l
 |.agx _=>True
def V.rel(ρ:List Nat):V->Value->Prop
 |.a x,y=>x.bd ρ.length/\y=x.den ρ
 |.tup l,y=>(∀x∈l,A.bd ρ.length x)/\y=.tuple (fg ρ l).toArray
 |.j,_=>True
inductive CK where
 |i (k:IntKind)|b|s|p|sl|m|f
structure gC where
 key:Nat
 live:List Nat
 junk:List Nat
 hv:List Nat
structure Eh where
 loops:List gC:=[]
 cuts:List gC:=[]
 muts:List Nat:=[]
 ent:List TypeId:=[]
 lim:Nat:=16
 all:Bool:=false
 wrap:Bool:=false
 strict:Bool:=false
 lt:Bool:=false
 dead:List Nat:=[]
structure En where
 n:Nat
 base:List V
 rho:List Nat
 ro:List (Nat×TypeId×List C)
 an:Eh
structure Hp where
 rho:List Nat
 hp:List (Nat×TypeId×List C)
 w:World
 S:List Nat
 old:Nat
 clean:Bool
abbrev Ov:=List (Nat×V)
def ce{α:Type}:List (Nat×α)->Nat->Option α
 |[],_=>none
 |(k,v)::r,t=>match Nat.beq k t with
  |true=>some v
  |false=>ce r t
def fO(E:En)(ov:Ov)(t:Nat):V :=
 match Nat.blt t E.n with
 |true=>match ce ov t with
  |some v=>v
  |none=>E.base.getD t .j
 |false=>.j
def qy(ρ:List Nat):List (Nat×TypeId×List C)->World->Prop
 |[],_=>True
 |[(i,T,cs)],w=>w.heap[ρ.getD i 0]?=some (.cells (bJ ρ cs).toArray T (0,0))
 |(i,T,cs)::r,w=>w.heap[ρ.getD i 0]?=some (.cells (bJ ρ cs).toArray T (0,0))/\qy ρ r w
def j6(ρ:List Nat)(l:List (Nat×TypeId×List C))(w:World)(k:Prop):Prop :=
 match l with
 |[]=>k
 |l=>qy ρ l w->k
def BG:List Value->List C
 |[]=>[]
 |x::r=>.v x::BG r
def vX:Value->V
 |.agg cs=>.a (.agg (BG cs.toList))
 |.tuple vs=>match vs.toList with
  |[]=>.tup []
  |_=>.j
 |x=>.a (.c (.v x))
def ev(E:En)(ov:Ov):Operand->V
 |.tmp t=>fO E ov t
 |.const x=>vX x
 |.global g=>.a (.c (.v (pK g)))
 |.func f=>.a (.c (.v (.func (.func f) #[] #[])))
def jA:Value->Bool
 |.agg _|.tuple _=>false
 |_=>true
def iG:V->Option (List C)
 |.a (.agg l)=>some l
 |.a (.c (.v x))=>if jA x=true then some [.v x] else none
 |.a (.c c)=>some [c]
 |_=>none
def vZ:C->Option Bool
 |.v (.bool b)=>some b
 |.sb b=>some b
 |.sp _ d=>some (@decide _ d)
 |_=>none
def Ei(c:C)(t f:Prop):Prop :=
 match c with
 |.v (.bool true)=>t
 |.v (.bool false)=>f
 |.sb b=>(b=true->t)/\(b=false->f)
 |.sp p _=>(p->t)/\(¬p->f)
 |_=>False
def Ba:List CK->(List C->Prop)->Prop
 |[],Q=>Q []
 |.i k::r,Q=>∃n:Int,Ba r fun l=>Q (.v (.int k n)::l)
 |.b::r,Q=>∃b:Bool,Ba r fun l=>Q (.sb b::l)
 |.s::r,Q=>∃s:ByteArray,Ba r fun l=>Q (.v (.string s)::l)
 |.p::r,Q=>∃a:Option Addr,Ba r fun l=>Q (.pt a::l)
 |.sl::r,Q=>∃(a:Option Addr) (n c:Nat),Ba r fun l=>Q (.v (.slice a n c)::l)
 |.m::r,Q=>∃a:Option Nat,Ba r fun l=>Q (.v (.map a)::l)
 |.f::r,Q=>∃(f:FuncId) (first caps:Array Value),Ba r fun l=>Q (.v (.func (.func f) first caps)::l)
def xW:List CK->(List C->Prop)->Prop
 |[],Q=>Q []
 |.i k::r,Q=>∀n:Int,xW r fun l=>Q (.v (.int k n)::l)
 |.b::r,Q=>∀b:Bool,xW r fun l=>Q (.sb b::l)
 |.s::r,Q=>∀s:ByteArray,xW r fun l=>Q (.v (.string s)::l)
 |.p::r,Q=>∀a:Option Addr,xW r fun l=>Q (.pt a::l)
 |.sl::r,Q=>∀(a:Option Addr) (n c:Nat),xW r fun l=>Q (.v (.slice a n c)::l)
 |.m::r,Q=>∀a:Option Nat,xW r fun l=>Q (.v (.map a)::l)
 |.f::r,Q=>∀(f:FuncId) (first caps:Array Value),xW r fun l=>Q (.v (.func (.func f) first caps)::l)
def zo{α:Type}:Nat->List α->List α
 |0,_=>[]
 |n+1,l=>l++zo n l
def pN(P:Program):Nat->TypeId->Option (List CK)
 |0,_=>none
 |n+1,t=>match P.underlying t with
  |some .bool=>some [.b]
  |some (.int k)=>some [.i k]
  |some .string=>some [.s]
  |some (.pointer _)=>some [.p]
  |some (.slice _)=>some [.sl]
  |some (.map _ _)=>some [.m]
  |some (.func _ _ _)=>some [.f]
  |some (.struct fs)=>fs.toList.foldr (fun f acc=>match pN P n f.type,acc with
    |some a,some b=>some (a++b)
    |_,_=>none) (some [])
  |some (.array len e)=>match Nat.ble len 16 with
    |true=>(pN P n e).map (zo len)
    |false=>none
  |_=>none
def kY(P:Program)(t:TypeId):Bool :=
 match P.underlying t with
 |some (.struct _)|some (.array _ _)=>true
 |_=>false
def aP(P:Program)(t:TypeId):Nat :=
 match P.info? t with
 |some i=>i.size
 |none=>0
def Em(P:Program)(t:TypeId)(Q:A->Prop):Prop :=
 match pN P 8 t with
 |some ks=>match kY P t,Nat.beq ks.length (aP P t) with
  |true,true=>Ba ks fun l=>Q (.agg l)
  |false,_=>Ba ks fun l=>match l with
   |[c]=>Q (.c c)
   |_=>False
  |true,false=>False
 |none=>match kY P t with
  |true=>∃l:List Value,l.length=aP P t/\Q (.agx l)
  |false=>False
def zz(P:Program):List TypeId->(List A->Prop)->Prop
 |[],Q=>Q []
 |t::r,Q=>Em P t fun a=>zz P r fun l=>Q (a::l)
def D3(P:Program)(t:TypeId)(Q:V->Prop):Prop :=
 match P.underlying t with
 |some (.tuple ts)=>zz P ts.toList fun l=>Q (.tup l)
 |_=>Em P t fun a=>Q (.a a)
structure ar (k:IntKind) (n:Int):Prop where
 lo:k.min<=n
 hi:n<=k.max
inductive Ev (P:Program) (s:Sem Value) (w:World) (Q:Value->World->Prop):Prop where
 |mk (y:Value) (w':World) (run:s.run P w=.ok y w') (q:Q y w')
structure Pv (P:Program) (s:Sem Value) (x:Value):Prop where
 run:∀w,s.run P w=.ok x w
structure ag (P:Program) (f:FuncId) (args:Array Value) (w:World) (R:Ending->World->Prop):Prop where
 calls:Calls P f args w R
structure af (b:Nat) (F:List Nat):Prop where
 no:b∉F
def EK:C->List Nat
 |.loc i _=>[i]
 |.lsl i _ _ _=>[i]
 |_=>[]
def EP:List C->List Nat
 |[]=>[]
 |c::r=>EK c++EP r
def DR:A->List Nat
 |.c x=>EK x
 |.agg l=>EP l
 |.agx _=>[]
def Fw:V->List Nat
 |.a x=>DR x
 |_=>[]
def jB:Nat->List Nat->Bool
 |_,[]=>false
 |n,k::r=>match Nat.beq n k with
  |true=>true
  |false=>jB n r
def aH{α:Type}(ids:List Nat):List (Nat×α)->List (Nat×α)
 |[]=>[]
 |(i,x)::r=>match jB i ids with
  |true=>(i,x)::aH ids r
  |false=>aH ids r
def cC{α:Type}(ids:List Nat):List (Nat×α)->List (Nat×α)
 |[]=>[]
 |(i,x)::r=>match jB i ids with
  |true=>cC ids r
  |false=>(i,x)::cC ids r
def ah(E:En)(H:Hp):List Nat:=E.rho++H.rho
def bT(E:En)(H:Hp):List (Nat×TypeId×List C):=H.hp++E.ro
def wv(E:En)(H:Hp)(ids:List Nat):List (Nat×TypeId×List C) :=
 match E.an.all with
 |true=>bT E H
 |false=>aH ids (bT E H)
def Br(ρ:List Nat):List Nat->List Nat
 |[]=>[]
 |i::r=>ρ.getD i 0::Br ρ r
def FC:List Nat->World->Prop->Prop
 |[],_,k=>k
 |b::r,w,k=>b<w.heap.size->FC r w k
def lS(t:Bool)(l:List Nat)(w:World)(k:Prop):Prop :=
 match t with
 |false=>k
 |true=>FC l w k
def eX(E:En)(H:Hp)(ids:List Nat)(k:Hp->Prop):Prop :=
 match H.clean with
 |true=>j6 (ah E H) (wv E H ids) H.w (k H)
 |false=>∀wa,KpL (Br (ah E H) H.S) H.w wa->lS E.an.lt (H.rho.drop H.old) wa (j6 (ah E H) (wv E H ids) wa (k { H with w:=wa,S:=[],old:=H.rho.length,clean:=true }))
def fc(H:Hp)(w:World):Hp:={ H with w:=w,S:=[],old:=H.rho.length,clean:=true }
def lh(E:En)(H:Hp):List (Nat×TypeId×List C)->List Nat->Prop
 |[],_=>True
 |[(i,_,_)],F=>af ((ah E H).getD i 0) F
 |(i,_,_)::r,F=>af ((ah E H).getD i 0) F/\lh E H r F
def fM(E:En)(H:Hp)(l:List (Nat×TypeId×List C))(F:List Nat)(k:Prop):Prop :=
 match l with
 |[]=>k
 |l=>lh E H l F/\k
def FD(P:Program)(E:En)(H:Hp)(ids:List Nat)(s:Sem Value)(t:TypeId)(k:V->Hp->Prop):Prop :=
 eX E H ids fun H=>Ev P s H.w fun y wb=>D3 P t fun v=>y=v.den (ah E H)/\∃F,KpL F H.w wb/\fM E H (bT E H) F (k v (fc H wb))
inductive Ex where
 |ptr|step (ts:List TypeId)|entry (ts:List TypeId)
def FH(P:Program)(x:Ex)(Q:V->Prop):Prop :=
 match x with
 |.ptr=>∃ad,Q (.a (.c (.v (.pointer (some ad)))))
 |.step ts=>Q (.tup [.c (.v (.bool false))])∨zz P ts fun l=>Q (.tup (.c (.v (.bool true))::l))
 |.entry ts=>zz P ts fun l=>Q (.tup l)
def D0(P:Program)(E:En)(H:Hp)(ids:List Nat)(s:Sem Value)(x:Ex)(k:V->Hp->Prop):Prop :=
 eX E H ids fun H=>Ev P s H.w fun y wb=>FH P x fun v=>y=v.den (ah E H)/\∃F,KpL F H.w wb/\fM E H (bT E H) F (k v (fc H wb))
def CO(E:En)(H:Hp)(T:TypeId)(cs:List C)(k:Nat->Hp->Prop):Prop :=
 ∀b,H.w.heap.size<=b->
  k (ah E H).length { H with rho:=H.rho++[b],hp:=((ah E H).length,T,cs)::H.hp,clean:=false }
def setL{α:Type}:List α->Nat->List α->List α
 |l,0,[]=>l
 |[],0,_=>[]
 |_::r,0,c::cs=>c::setL r 0 cs
 |[],_+1,_=>[]
 |x::r,n+1,cs=>x::setL r n cs
def oQ:List C->Nat->Nat->List C
 |_,_,0=>[]
 |[],_,_+1=>[]
 |x::r,0,n+1=>x::oQ r 0 n
 |_::r,o+1,n+1=>oQ r o (n+1)
def jE(i:Nat)(off:Nat)(cs:List C):List (Nat×TypeId×List C)->List (Nat×TypeId×List C)
 |[]=>[]
 |(k,T,l)::r=>match Nat.beq k i with
  |true=>(k,T,setL l off cs)::r
  |false=>(k,T,l)::jE i off cs r
def mp(P:Program)(t:TypeId)(l:List C)(off:Nat):Option A :=
 match P.underlying t with
 |none=>none
 |some _=>match kY P t with
  |true=>match Nat.ble (off+aP P t) l.length with
   |true=>some (.agg (oQ l off (aP P t)))
   |false=>none
  |false=>match oQ l off 1 with
   |[c]=>some (.c c)
   |_=>none
def ve(E:En)(H:Hp)(i:Nat):Option (TypeId×List C) :=
 match ce H.hp i with
 |some x=>some x
 |none=>ce E.ro i
def wq(P:Program)(E:En)(H:Hp)(t:TypeId)(ad:Addr)(k:V->Hp->Prop):Prop :=
 match H.clean,H.S,E.an.strict with
 |false,[],false=>Em P t fun x=>ao H.w ad (qB (ah E H) x)/\k (.a x) H
 |_,_,_=>eX E H [] fun H=>Em P t fun x=>ao H.w ad (qB (ah E H) x)/\k (.a x) H
def qj(P:Program)(E:En)(H:Hp)(t:TypeId)(p:V)(k:V->Hp->Prop):Prop :=
 match p with
 |.a (.c (.loc i off))=>match ve E H i with
  |some (_,l)=>match mp P t l off with
   |some x=>k (.a x) H
   |none=>False
  |none=>wq P E H t ⟨(ah E H).getD i 0,off,none⟩ k
 |.a (.c (.v (.pointer (some ad))))=>wq P E H t ad k
 |_=>False
structure aq (w:World) (ad:Addr) (n:Nat):Prop where
 at_:∀i,i<n->w.frozen? (ad.add i)=false
def vQ(E:En)(H:Hp)(ad:Addr)(cs:List Value)(k:V->Hp->Prop):Prop :=
 eX E H [] fun H=>(∃old,ao H.w ad old/\old.length=cs.length)/\aq H.w ad cs.length/\fM E H (bT E H) [ad.block] (∀wb,wb=bL H.w ad cs 0->k (.tup []) (fc H wb))
def FK:A->List Value
 |.agx l=>l
 |_=>[]
def gh:List C->Bool
 |[]=>true
 |.v x::r=>match jA x with
  |true=>gh r
  |false=>false
 |_::r=>gh r
def qM(P:Program)(E:En)(H:Hp)(t:TypeId)(p x:V)(k:V->Hp->Prop):Prop :=
 match P.underlying t with
 |none=>False
 |some _=>match p,x with
 |.a (.c (.v (.pointer (some ad)))),.a (.agx l) =>
  l.length=aP P t/\(∀y∈l,jA y=true)/\vQ E H ad l k
 |p,x=>match iG x with
  |none=>False
  |some cs=>match Nat.beq cs.length (aP P t),gh cs with
   |true,true=>match p with
    |.a (.c (.loc i off))=>match ce H.hp i with
     |some (_,l)=>match Nat.ble (off+cs.length) l.length with
      |true=>k (.tup []) { H with hp:=jE i off cs H.hp,S:=(match Nat.blt i (E.rho.length+H.old) with|true=>i::H.S|false=>H.S),clean:=false }
      |false=>False
     |none=>match ce E.ro i with
      |some _=>False
      |none=>vQ E H ⟨(ah E H).getD i 0,off,none⟩ (bJ (ah E H) cs) k
    |.a (.c (.v (.pointer (some ad))))=>vQ E H ad (bJ (ah E H) cs) k
    |_=>False
   |_,_=>False
def cP:List V->Bool
 |[]=>true
 |.j::_=>false
 |_::r=>cP r
def gX:Operand->Option Nat
 |.const (.int _ (.ofNat n))=>some n
 |_=>none
def aX(op:BinOp)(k:IntKind)(x y:Int):Int :=
 match op with
 |.and=>k.wrap (BitVec.ofInt k.bits x &&& BitVec.ofInt k.bits y).toNat
 |.or=>k.wrap (BitVec.ofInt k.bits x ||| BitVec.ofInt k.bits y).toNat
 |.xor=>k.wrap (BitVec.ofInt k.bits x ^^^ BitVec.ofInt k.bits y).toNat
 |_=>k.wrap (BitVec.ofInt k.bits x &&& ~~~ BitVec.ofInt k.bits y).toNat
def o9(wrap:Bool)(k:IntKind)(n:Int)(Q:C->Prop):Prop :=
 match k.signed,wrap with
 |true,false=>ar k n/\Q (.v (.int k n))
 |_,_=>Q (.v (.int k (k.wrap n)))
def qo:IntKind->IntKind->Bool
 |.i8,.i8|.i16,.i16|.i32,.i32|.i64,.i64|.u8,.u8|.u16,.u16|.u32,.u32|.u64,.u64=>true
 |_,_=>false
def zw(wrap:Bool)(op:BinOp)(k:IntKind)(a b:Int)(Q:C->Prop):Prop :=
 match op with
 |.add=>o9 wrap k (a+b) Q
 |.sub=>o9 wrap k (a - b) Q
 |.mul=>o9 wrap k (a*b) Q
 |.quo=>b≠0/\Q (.v (.int k (k.wrap (a.tdiv b))))
 |.rem=>b≠0/\Q (.v (.int k (a.tmod b)))
 |.and|.or|.xor|.andNot=>Q (.v (.int k (aX op k a b)))
 |.eql=>Q (.sp (a=b) inferInstance)
 |.neq=>Q (.sp (a≠b) inferInstance)
 |.lss=>Q (.sp (a<b) inferInstance)
 |.leq=>Q (.sp (a<=b) inferInstance)
 |.gtr=>Q (.sp (b<a) inferInstance)
 |.geq=>Q (.sp (b<=a) inferInstance)
 |_=>False
def qw(op:BinOp)(k:IntKind)(a:Int)(b:Int)(m:Option Nat)(Q:C->Prop):Prop :=
 match m with
 |some m=>match Nat.ble m k.bits,op with
  |true,.shl=>Q (.v (.int k (k.wrap (a*((2 ^ m:Nat):Int)))))
  |true,.shr=>Q (.v (.int k (a.fdiv ((2 ^ m:Nat):Int))))
  |_,_=>False
 |none=>match op with
  |.shl=>0<=b/\Q (.v (.int k (k.wrap (a*2 ^ min b.toNat k.bits))))
  |.shr=>0<=b/\Q (.v (.int k (a.fdiv (2 ^ min b.toNat k.bits))))
  |_=>False
def Dh:BinOp->Bool
 |.shl|.shr=>true
 |_=>false
def Ax(op:BinOp)(a b:ByteArray)(Q:C->Prop):Prop :=
 match op with
 |.add=>a.size+b.size<=9223372036854775807/\Q (.v (.string (a++b)))
 |.eql=>Q (.sp (a=b) inferInstance)
 |.neq=>Q (.sp (a≠b) inferInstance)
 |.lss=>Q (.sb (Op.bytesLess a.toList b.toList))
 |.leq=>Q (.sb (Op.bytesLess a.toList b.toList || a.toList == b.toList))
 |.gtr=>Q (.sb (!(Op.bytesLess a.toList b.toList || a.toList == b.toList)))
 |.geq=>Q (.sb (!Op.bytesLess a.toList b.toList))
 |_=>False
def DD(op:BinOp)(b:Bool)(Q:C->Prop):Prop :=
 match op with
 |.eql=>Q (.sb b)
 |.neq=>Q (.sb (!b))
 |_=>False
def EU:BinOp->Bool
 |.eql|.neq=>true
 |_=>false
def uw(P:Program)(xt:TypeId)(x y:C):Option C :=
 match y with
 |.v (.pointer none)=>match P.underlying xt,x with
  |some (.pointer _),.pt a=>some (.sp (a=none) inferInstance)
  |some (.pointer _),.loc _ _=>some (.v (.bool false))
  |some (.pointer _),.v (.pointer (some _))=>some (.v (.bool false))
  |_,_=>none
 |.v (.slice none _ _)=>match P.underlying xt,x with
  |some (.slice _),.v (.slice a _ _)=>some (.sp (a=none) inferInstance)
  |_,_=>none
 |.v (.map none)=>match P.underlying xt,x with
  |some (.map _ _),.v (.map a)=>some (.sp (a=none) inferInstance)
  |_,_=>none
 |_=>none
def qO:C->C
 |.v (.bool b)=>.v (.bool (!b))
 |.sb b=>.sb (!b)
 |.sp p d=>.sp (¬p) (@instDecidableNot p d)
 |c=>c
def DZ(P:Program)(E:En)(H:Hp)(op:BinOp)(xt:TypeId)(x y:V)(xo yo:Operand)(Q:C->Prop):Prop :=
 match x,y with
 |.a (.c (.v (.int k a))),.a (.c (.v (.int k' b))) =>
  match Dh op with
  |true=>qw op k a b (gX yo) Q
  |false=>match qo k k' with
   |true=>zw E.an.wrap op k a b Q
   |false=>False
 |.a (.c (.v (.string a))),.a (.c (.v (.string b)))=>Ax op a b Q
 |.a (.c x),.a (.c y)=>match uw P xt x y,op with
  |some c,.eql=>Q c
  |some c,.neq=>Q (qO c)
  |_,_=>match vZ x,vZ y with
  |some a,some b=>match P.underlying xt with
   |some .bool=>DD op (a == b) Q
   |_=>False
  |_,_=>match EU op with
   |true=>∃b:Bool,Pv P (do eqGuard op xt xo yo (x.den (ah E H)) (y.den (ah E H));binOp op xt (x.den (ah E H)) (y.den (ah E H))) (.bool b)/\Q (.sb b)
   |false=>False
 |x,y=>match EU op,cP [x,y] with
  |true,true=>∃b:Bool,Pv P (do eqGuard op xt xo yo (x.den (ah E H)) (y.den (ah E H));binOp op xt (x.den (ah E H)) (y.den (ah E H))) (.bool b)/\Q (.sb b)
  |_,_=>False
def CA:IntKind->IntKind->Bool
 |.i8,.i8|.i8,.i16|.i8,.i32|.i8,.i64=>true
 |.i16,.i16|.i16,.i32|.i16,.i64=>true
 |.i32,.i32|.i32,.i64|.i64,.i64=>true
 |.u8,.u8|.u8,.u16|.u8,.u32|.u8,.u64|.u8,.i16|.u8,.i32|.u8,.i64=>true
 |.u16,.u16|.u16,.u32|.u16,.u64|.u16,.i32|.u16,.i64=>true
 |.u32,.u32|.u32,.u64|.u32,.i64|.u64,.u64=>true
 |_,_=>false
def zC(P:Program)(src dst:TypeId)(x:V):Option ((C->Prop)->Prop) :=
 match P.underlying src,P.underlying dst,x with
 |some (.int _),some (.int k'),.a (.c (.v (.int k n)))=>match CA k k' with
  |true=>some fun Q=>ar k' n/\Q (.v (.int k' n))
  |false=>some fun Q=>Q (.v (.int k' (k'.wrap n)))
 |some .string,some .string,.a (.c (.v (.string s)))=>some fun Q=>Q (.v (.string s))
 |_,_,_=>none
def m8(P:Program)(t:TypeId):Option (List Field) :=
 match P.underlying t with
 |some (.struct fs)=>some fs.toList
 |_=>none
def og(P:Program)(t:TypeId):Option (List C) :=
 match P.info? t with
 |some i=>match i.zero with
  |some z=>iG (vX z)
  |none=>none
 |none=>none
def vS(P:Program):List Field->Bool
 |[]=>true
 |f::r=>match Nat.blt 0 (aP P f.type) with
  |true=>vS P r
  |false=>false
def qz(P:Program)(fs:List Field)(i:Nat):Option (Nat×Nat) :=
 match fs[i]? with
 |some f=>some (f.offset,aP P f.type)
 |none=>none
def lz(P:Program)(e:TypeId)(i:Nat):Option (Nat×Nat):=some (i*aP P e,aP P e)
def vf(P:Program)(t:TypeId):Option (Nat->Option (Nat×Nat)) :=
 match P.underlying t with
 |some (.struct fs)=>match vS P fs.toList with
  |true=>some (qz P fs.toList)
  |false=>none
 |some (.array _ e)=>match Nat.blt 0 (aP P e) with
  |true=>some (lz P e)
  |false=>none
 |some (.slice e)=>match Nat.blt 0 (aP P e) with
  |true=>some (lz P e)
  |false=>none
 |_=>none
def im(place:Nat->Option (Nat×Nat)):List C->List (Nat×V)->Option (List C)
 |l,[]=>some l
 |l,(i,v)::r=>match place i,iG v with
  |some (off,size),some cs=>match Nat.beq cs.length size,Nat.ble (off+cs.length) l.length with
   |true,true=>im place (setL l off cs) r
   |_,_=>none
  |_,_=>none
def rZ(P:Program)(t:TypeId)(parts:List (Nat×V)):Option (List C) :=
 match kY P t,og P t,vf P t with
 |true,some z,some pl=>im pl z parts
 |_,_,_=>none
def oS:List (Nat×V)->List V
 |[]=>[]
 |x::r=>x.2::oS r
def rq(E:En)(ov:Ov):List (Nat×Operand)->List (Nat×V)
 |[]=>[]
 |(i,x)::r=>(i,ev E ov x)::rq E ov r
def lP(E:En)(ov:Ov):List Operand->List V
 |[]=>[]
 |x::r=>ev E ov x::lP E ov r
def kz(ρ:List Nat):List (Nat×V)->List (Nat×Value)
 |[]=>[]
 |(i,x)::r=>(i,x.den ρ)::kz ρ r
def dY(ρ:List Nat):List V->List Value
 |[]=>[]
 |x::r=>x.den ρ::dY ρ r
def jG:List V->List Nat
 |[]=>[]
 |x::r=>Fw x++jG r
def cW(s:ByteArray)(n:Int):Int:=(s.data.getD n.toNat 0).toNat
def pQ(P:Program)(e:TypeId)(Q:Prop):Prop :=
 match Nat.blt 0 (aP P e) with
 |true=>Q
 |false=>False
def ux(P:Program)(E:En)(H:Hp)(t:TypeId)(x ix:V)(ixo:Operand)(Q:C->Prop):Prop :=
 match ix with
 |.a (.c (.v (.int _ n)))=>match P.underlying t,x with
  |some (.slice e),.a (.c (.v (.slice a len _)))=>pQ P e (∃ad,a=some ad/\0<=n/\n<(len:Int)/\Q (.v (.pointer (some (ad.add (n.toNat*aP P e))))))
  |some (.slice e),.a (.c (.lsl i off len _))=>pQ P e (match gX ixo with
   |some m=>match Nat.blt m len with
    |true=>Q (.loc i (off+m*aP P e))
    |false=>False
   |none=>0<=n/\n<(len:Int)/\Q (.v (.pointer (some (Addr.add ⟨(ah E H).getD i 0,off,none⟩ (n.toNat*aP P e))))))
  |some (.array len e),.a (.c (.loc i off))=>pQ P e (match gX ixo with
   |some m=>match Nat.blt m len,Nat.blt 1 len with
    |true,true=>Q (.loc i (off+m*aP P e))
    |_,_=>False
   |none=>0<=n/\n<(len:Int)/\Q (.v (.pointer (some (Addr.add ⟨(ah E H).getD i 0,off,none⟩ (n.toNat*aP P e))))))
  |some (.array len e),.a (.c (.v (.pointer (some ad))))=>pQ P e (0<=n/\n<(len:Int)/\Q (.v (.pointer (some (ad.add (n.toNat*aP P e))))))
  |_,_=>False
 |_=>False
def qD(P:Program)(t:TypeId)(x:V)(f:Nat):Option C :=
 match m8 P t with
 |some fs=>match fs[f]? with
  |some fd=>match Nat.beq (aP P fd.type) 0 with
   |true=>none
   |false=>match x with
    |.a (.c (.loc i off))=>some (.loc i (off+fd.offset))
    |.a (.c (.v (.pointer (some ad))))=>some (.v (.pointer (some (ad.add fd.offset))))
    |_=>none
  |none=>none
 |none=>none
def Ed(P:Program)(t:TypeId)(x:V):Option Int :=
 match P.underlying t,x with
 |some .string,.a (.c (.v (.string s)))=>some s.size
 |some (.slice _),.a (.c (.v (.slice _ n _)))=>some n
 |some (.slice _),.a (.c (.lsl _ _ n _))=>some n
 |some (.array n _),_=>some n
 |_,_=>none
def FB(P:Program)(ts:Array TypeId):Bool :=
 match ts.toList with
 |[t]=>match P.underlying t with
  |some (.map _ _)=>false
  |_=>true
 |_=>true
def jM(P:Program):Op->Bool
 |.move _|.assign _|.pick .. | .load .. | .nilCheck _|.binOp .. | .unOp .. | .fieldAddr .. | .field .. | .indexAddr .. | .index .. | .extract .. | .makeFunc .. | .build .. => true
 |.call { callee:=.builtin .len,argTypes,.. }=>FB P argTypes
 |.call { callee:=.builtin .min,.. }|.call { callee:=.builtin .max,.. }=>true
 |.slice .. => true
 |.convert src dst _=>match P.underlying src,P.underlying dst with
  |some (.int _),some (.int _)=>true
  |some .string,some .string=>true
  |_,_=>false
 |_=>false
def Db(P:Program)(E:En)(H:Hp)(s:Sem Value)(t:TypeId)(k:V->Hp->Prop):Prop :=
 D3 P t fun v=>Pv P s (v.den (ah E H))/\k v H
def Al(ρ:List Nat)(E:En)(ov:Ov):Option Operand->Option Value
 |none=>none
 |some x=>some ((ev E ov x).den ρ)
def vR(E:En)(ov:Ov):Option Operand->Bool
 |none=>true
 |some x=>cP [ev E ov x]
def Ej(P:Program)(E:En)(ov:Ov)(H:Hp)(o:Oper)(k:V->Hp->Prop):Prop :=
 match o.op with
 |.move x|.assign x=>k (ev E ov x) H
 |.pick c x y=>match ev E ov c with
  |.a (.c c)=>Ei c (k (ev E ov x) H) (k (ev E ov y) H)
  |_=>False
 |.load t p=>qj P E H t (ev E ov p) k
 |.nilCheck x=>match ev E ov x with
  |.a (.c (.loc i off))=>k (.a (.c (.loc i off))) H
  |.a (.c (.v (.pointer (some ad))))=>k (.a (.c (.v (.pointer (some ad))))) H
  |.a (.c (.pt a))=>∃ad,a=some ad/\k (.a (.c (.v (.pointer (some ad))))) H
  |.a (.c (.v (.func (.func f) first caps)))=>k (.a (.c (.v (.func (.func f) first caps)))) H
  |_=>False
 |.convert src dst x=>match zC P src dst (ev E ov x) with
  |some g=>g fun c=>k (.a (.c c)) H
  |none=>False
 |.binOp op t x y _=>DZ P E H op t (ev E ov x) (ev E ov y) x y fun c=>k (.a (.c c)) H
 |.unOp .not _ x=>match ev E ov x with
  |.a (.c (.v (.bool b)))=>k (.a (.c (.v (.bool (!b))))) H
  |.a (.c (.sb b))=>k (.a (.c (.sb (!b)))) H
  |.a (.c (.sp p d))=>k (.a (.c (.sp (¬p) (@instDecidableNot p d)))) H
  |_=>False
 |.unOp .neg _ x=>match ev E ov x with
  |.a (.c (.v (.int kk n)))=>o9 E.an.wrap kk (0 - n) fun c=>k (.a (.c c)) H
  |_=>False
 |.unOp u _ x=>match cP [ev E ov x] with
  |true=>Db P E H (Op.unary u ((ev E ov x).den (ah E H))) o.type k
  |false=>False
 |.fieldAddr t x f=>match qD P t (ev E ov x) f with
  |some c=>k (.a (.c c)) H
  |none=>False
 |.field t x f=>match ev E ov x,m8 P t with
  |.a (.agg l),some fs=>match fs[f]? with
   |some fd=>match mp P fd.type l fd.offset with
    |some x=>k (.a x) H
    |none=>False
   |none=>False
  |.a (.agx l),some _=>Db P E H (Instr.field t (.agg l.toArray) f) o.type k
  |_,_=>False
 |.indexAddr t x ix=>ux P E H t (ev E ov x) (ev E ov ix) ix fun c=>k (.a (.c c)) H
 |.index t x ix=>match P.underlying t,ev E ov x,ev E ov ix with
  |some .string,.a (.c (.v (.string s))),.a (.c (.v (.int _ n)))=>0<=n/\n<(s.size:Int)/\k (.a (.c (.v (.int .u8 (cW s n))))) H
  |some (.array len e),.a (.agg l),.a (.c (.v (.int _ _)))=>match gX ix with
   |some m=>match Nat.blt m len with
    |true=>match mp P e l (m*aP P e) with
     |some x=>k (.a x) H
     |none=>False
    |false=>False
   |none=>Db P E H (Instr.index t ((ev E ov x).den (ah E H)) ((ev E ov ix).den (ah E H))) o.type k
  |_,x,ix=>match cP [x,ix] with
   |true=>Db P E H (Instr.index t (x.den (ah E H)) (ix.den (ah E H))) o.type k
   |false=>False
 |.extract x i=>match ev E ov x with
  |.tup l=>match l[i]? with
   |some x=>k (.a x) H
   |none=>False
  |_=>False
 |.makeFunc fn first caps=>match cP (lP E ov first.toList),cP (lP E ov caps.toList) with
  |true,true=>k (.a (.c (.v (.func fn (dY (ah E H) (lP E ov first.toList)).toArray (dY (ah E H) (lP E ov caps.toList)).toArray)))) H
  |_,_=>False
 |.build t parts=>match cP (oS (rq E ov parts.toList)) with
  |false=>False
  |true=>match rZ P t (rq E ov parts.toList) with
   |some l=>k (.a (.agg l)) H
   |none=>Db P E H (Instr.build t (kz (ah E H) (rq E ov parts.toList)).toArray) o.type k
 |.slice t x lo hi mx=>match cP [ev E ov x],vR E ov lo,vR E ov hi,vR E ov mx with
  |true,true,true,true=>Db P E H (Instr.sliceAt t ((ev E ov x).den (ah E H)) (Al (ah E H) E ov lo) (Al (ah E H) E ov hi) (Al (ah E H) E ov mx)) o.type k
  |_,_,_,_=>False
 |.call { callee:=.builtin .len,args,argTypes }=>match args.toList,argTypes.toList with
  |[x],[t]=>match Ed P t (ev E ov x) with
   |some n=>k (.a (.c (.v (iv n)))) H
   |none=>False
  |_,_=>False
 |.call { callee:=.builtin .min,args,argTypes }=>match cP (lP E ov args.toList) with
  |true=>Db P E H (Builtin.min_ argTypes o.type (dY (ah E H) (lP E ov args.toList)).toArray) o.type k
  |false=>False
 |.call { callee:=.builtin .max,args,argTypes }=>match cP (lP E ov args.toList) with
  |true=>Db P E H (Builtin.max_ argTypes o.type (dY (ah E H) (lP E ov args.toList)).toArray) o.type k
  |false=>False
 |_=>False
def j8(P:Program)(E:En)(H:Hp)(vs:List V)(s:Sem Value)(t:TypeId)(k:V->Hp->Prop):Prop :=
 match cP vs with
 |true=>FD P E H (jG vs) s t k
 |false=>False
def sQ(P:Program)(E:En)(H:Hp)(vs:List V)(s:Sem Value)(x:Ex)(k:V->Hp->Prop):Prop :=
 match cP vs with
 |true=>D0 P E H (jG vs) s x k
 |false=>False
def AY(P:Program)(E:En)(H:Hp)(f:Nat)(pre:List Value)(vs:List V)(post:List Value)(t:TypeId)(k:V->Hp->Prop):Prop :=
 match P.funcs[f]? with
 |some fn=>match fn.body,cP vs with
  |some _,true=>match jB f E.an.muts with
   |false=>eX E H (jG vs) fun H=>ag P f (pre++dY (ah E H) vs++post).toArray H.w fun e wb=>D3 P t fun v=>e=.returned (v.den (ah E H))/\KpL [] H.w wb/\k v (fc H wb)
   |true=>eX E H (jG vs) fun H=>ag P f (pre++dY (ah E H) vs++post).toArray H.w fun e wb=>D3 P t fun v=>e=.returned (v.den (ah E H))/\
     ∃F,KpL F H.w wb/\fM E H (cC (jG vs) H.hp++E.ro) F (k v (fc { H with hp:=cC (jG vs) H.hp } wb))
  |_,_=>False
 |none=>False
structure cR (P:Program) (f:FuncId):Prop where
 ok:∃fn c,P.funcs[f]?=some fn/\fn.body=some c
def Aa(P:Program)(E:En)(H:Hp)(f:Nat)(pre:List Value)(vs:List V)(post:List Value)(t:TypeId)(k:V->Hp->Prop):Prop :=
 match cP vs with
 |true=>cR P f/\eX E H (jG vs) fun H=>ag P f (pre++dY (ah E H) vs++post).toArray H.w fun e wb=>D3 P t fun v=>e=.returned (v.den (ah E H))/\
   ∃F,KpL F H.w wb/\fM E H (cC (jG vs) H.hp++E.ro) F (k v (fc { H with hp:=cC (jG vs) H.hp } wb))
 |false=>False
def E7(P:Program)(E:En)(ov:Ov)(H:Hp)(o:Oper)(k:V->Hp->Prop):Prop :=
 match o.op with
 |.alloc T=>match og P T with
  |some z=>match Nat.ble z.length E.an.lim with
   |true=>CO E H T z fun i H=>k (.a (.c (.loc i 0))) H
   |false=>D0 P E H [] (Instr.alloc T true (.tuple #[])) .ptr k
  |none=>False
 |.box T x=>match iG (ev E ov x) with
  |some cs=>match Nat.ble cs.length E.an.lim with
   |true=>CO E H T cs fun i H=>k (.a (.c (.loc i 0))) H
   |false=>sQ P E H [ev E ov x] (Instr.box T ((ev E ov x).den (ah E H))) .ptr k
  |none=>False
 |.buildSlice t len parts=>match P.underlying t with
  |some (.slice e)=>match og P e with
   |some z=>match im (lz P e) (zo len z) (rq E ov parts.toList),Nat.ble (len*aP P e) 64,Nat.beq z.length (aP P e),Nat.blt 0 (len*aP P e) with
    |some l,true,true,true=>CO E H e l fun i H=>k (.a (.c (.lsl i 0 len len))) H
    |_,_,_,_=>j8 P E H (oS (rq E ov parts.toList)) (Instr.buildSlice t len (kz (ah E H) (rq E ov parts.toList)).toArray) o.type k
   |none=>False
  |_=>False
 |.store t p x=>qM P E H t (ev E ov p) (ev E ov x) k
 |.convert src dst x=>j8 P E H [ev E ov x] (convert src dst ((ev E ov x).den (ah E H))) o.type k
 |.makeMap t none=>j8 P E H [] (Instr.makeMap t none) o.type k
 |.makeMap t (some r)=>j8 P E H [ev E ov r] (Instr.makeMap t (some ((ev E ov r).den (ah E H)))) o.type k
 |.makeSlice t l c=>j8 P E H [ev E ov l,ev E ov c] (Instr.makeSlice t ((ev E ov l).den (ah E H)) ((ev E ov c).den (ah E H))) o.type k
 |.lookup t x ix ok=>j8 P E H [ev E ov x,ev E ov ix] (Instr.lookup t ((ev E ov x).den (ah E H)) ((ev E ov ix).den (ah E H)) ok) o.type k
 |.mapUpdate t m y x|.insert t m y x=>j8 P E H [ev E ov m,ev E ov y,ev E ov x]
   (do Instr.mapUpdate t ((ev E ov m).den (ah E H)) ((ev E ov y).den (ah E H)) ((ev E ov x).den (ah E H));pure undef) 0 k
 |.range t x=>sQ P E H [ev E ov x] (Instr.range t ((ev E ov x).den (ah E H))) .ptr k
 |.next x st=>sQ P E H [ev E ov x] (Instr.next ((ev E ov x).den (ah E H)) st o.type) (.step E.an.ent) k
 |.entry x=>sQ P E H [ev E ov x] (Instr.entry ((ev E ov x).den (ah E H))) (.entry E.an.ent) k
 |.sliceToArrayPointer t x=>sQ P E H [ev E ov x] (Instr.arrayAt t ((ev E ov x).den (ah E H))) .ptr k
 |.call { callee:=.builtin .len,args,argTypes }=>j8 P E H (lP E ov args.toList) (Builtin.len_ argTypes o.type (dY (ah E H) (lP E ov args.toList)).toArray) o.type k
 |.call { callee:=.builtin .append,args,argTypes }=>j8 P E H (lP E ov args.toList) (Builtin.append_ argTypes o.type (dY (ah E H) (lP E ov args.toList)).toArray) o.type k
 |.call { callee:=.builtin .copy,args,argTypes }=>j8 P E H (lP E ov args.toList) (Builtin.copy_ argTypes o.type (dY (ah E H) (lP E ov args.toList)).toArray) o.type k
 |.call { callee:=.builtin .delete,args,argTypes }=>j8 P E H (lP E ov args.toList) (Builtin.delete_ argTypes o.type (dY (ah E H) (lP E ov args.toList)).toArray) o.type k
 |.call { callee:=.value (.func f),args,.. }=>AY P E H f [] (lP E ov args.toList) [] o.type k
 |.call { callee:=.value (.tmp t),args,.. }=>match fO E ov t with
  |.a (.c (.v (.func (.func f) first caps)))=>Aa P E H f first.toList (lP E ov args.toList) caps.toList o.type k
  |_=>False
 |_=>False
def Fj(P:Program)(E:En)(ov:Ov)(H:Hp)(o:Oper)(k:V->Hp->Prop):Prop :=
 match jM P o.op with
 |true=>Ej P E ov H o k
 |false=>E7 P E ov H o k
def kR(dst:Option Tmp)(v:V)(ov:Ov):Ov :=
 match dst with
 |some d=>(d,v)::ov
 |none=>ov
def wC(b:Bool):V:=.a (.c (.v (.bool b)))
def gd(E:En)(ops:List Oper)(ov:Ov)(o:Oper)(run skip:Ov->Prop):Prop :=
 match o.guard with
 |none=>run ov
 |some (j,want)=>match ops[j]? with
  |none=>skip ov
  |some oj=>match oj.dst with
   |none=>skip ov
   |some d=>match fO E ov d with
    |.tup []=>skip ov
    |.a (.c (.v (.bool b)))=>match b,want with
     |true,true|false,false=>run ov
     |_,_=>skip ov
    |.a (.c (.sb b))=>match want with
     |true=>(b=true->run ((d,wC true)::ov))/\(b=false->skip ((d,wC false)::ov))
     |false=>(b=false->run ((d,wC false)::ov))/\(b=true->skip ((d,wC true)::ov))
    |.a (.c (.sp p _))=>match want with
     |true=>(p->run ((d,wC true)::ov))/\(¬p->skip ((d,wC false)::ov))
     |false=>(¬p->run ((d,wC false)::ov))/\(p->skip ((d,wC true)::ov))
    |_=>False
def zD(P:Program)(E:En)(ops:List Oper):List Oper->Ov->Hp->(Ov->Hp->Prop)->Prop
 |[],ov,H,k=>k ov H
 |o::r,ov,H,k=>gd E ops ov o (fun ov=>Fj P E ov H o fun v H'=>zD P E ops r (kR o.dst v ov) H' k)
   (fun ov=>zD P E ops r (kR o.dst (.tup []) ov) H k)
def jK(e:Edge):Bool:=Region.binds .any e
def yN(done:List Nat):List Edge->Bool
 |[]=>true
 |e::r=>match jK e with
  |false=>yN done r
  |true=>match jB e.on done with
   |true=>yN done r
   |false=>false
def BT(done:List Nat)(i:Nat)(o:Oper):Bool :=
 match jB i done with
 |true=>false
 |false=>yN done o.after.toList
def ge(P:Program)(done:List Nat):Nat->List Oper->Option (Nat×Oper)
 |_,[]=>none
 |i,o::r=>match jM P o.op with
  |true=>match BT done i o with
   |true=>some (i,o)
   |false=>ge P done (i+1) r
  |false=>ge P done (i+1) r
def dR(done:List Nat):Nat->List Oper->List (Nat×Oper)
 |_,[]=>[]
 |i,o::r=>match BT done i o with
  |true=>(i,o)::dR done (i+1) r
  |false=>dR done (i+1) r
def iq(am:List Nat):List Edge->Nat
 |[]=>0
 |e::r=>match jK e with
  |true=>Nat.lor (Nat.lor (2 ^ e.on) (am.getD e.on 0)) (iq am r)
  |false=>iq am r
def eO:List Oper->List Nat->List Nat
 |[],am=>am
 |o::r,am=>eO r (am++[iq am o.after.toList])
def rK(i:Nat):List Edge->Bool
 |[]=>true
 |e::r=>match jK e with
  |true=>match Nat.blt e.on i with
   |true=>rK i r
   |false=>false
  |false=>rK i r
def lg:Nat->List Oper->Bool
 |_,[]=>true
 |i,o::r=>match rK i o.after.toList with
  |true=>lg (i+1) r
  |false=>false
def jP(ops:Array Oper)(m:Nat)(i:Nat)(o:Oper):Nat->List Oper->Bool
 |_,[]=>true
 |j,p::r=>match Nat.testBit m j with
  |true=>jP ops m i o (j+1) r
  |false=>match Nat.ble i j with
   |true=>true
   |false=>match o.apart ops p,p.apart ops o with
    |true,true=>jP ops m i o (j+1) r
    |_,_=>false
def kV(ops:Array Oper)(am:List Nat):Nat->List Oper->Bool
 |_,[]=>true
 |i,o::r=>match jP ops (am.getD i 0) i o 0 ops.toList with
  |true=>kV ops am (i+1) r
  |false=>false
def vN:List Oper->Bool
 |[]=>true
 |o::r=>match o.op with
  |.select .. => false
  |_=>vN r
def r9(ops:Array Oper):Bool :=
 match lg 0 ops.toList,vN ops.toList,kV ops (eO ops.toList []) 0 ops.toList with
 |true,true,true=>true
 |_,_,_=>false
structure zk where
 ix:Nat
 ad:Addr
 cs:List Value
 ids:List Nat
def zR:List zk->List Nat
 |[]=>[]
 |b::r=>b.ids++zR r
def jH(E:En)(ov:Ov)(H:Hp)(i:Nat)(o:Oper)(v:V):List zk :=
 match o.op with
 |.load _ p=>match ev E ov p,v with
  |.a (.c (.loc id off)),.a x=>[⟨i,⟨(ah E H).getD id 0,off,none⟩,qB (ah E H) x,[id]⟩]
  |.a (.c (.v (.pointer (some ad)))),.a x=>[⟨i,ad,qB (ah E H) x,[]⟩]
  |_,_=>[]
 |_=>[]
def fj(m:Nat):List zk->List zk
 |[]=>[]
 |b::r=>match Nat.testBit m b.ix with
  |true=>fj m r
  |false=>b::fj m r
def dC:List zk->World->Prop
 |[],_=>True
 |b::r,w=>ao w b.ad b.cs/\dC r w
def mJ(E:En):Op->Bool
 |.alloc _|.box .. | .buildSlice .. => true
 |.call { callee:=.value (.func f),.. } => !jB f E.an.muts
 |_=>false
def EF(E:En)(H:Hp)(o:Oper)(O:List zk)(k:Hp->Prop):Prop :=
 match mJ E o.op,O with
 |true,_=>k H
 |false,[]=>k H
 |false,O=>eX E H (match E.an.lt with|true=>zR O|false=>[]) fun H=>dC O H.w/\k H
def D1{α:Type}:List α->(α->Prop)->Prop
 |[],_=>True
 |[x],Q=>Q x
 |x::r,Q=>Q x/\D1 r Q
def qZ(P:Program)(E:En)(ops:List Oper)(am:List Nat):Nat->List Nat->List zk->Ov->Hp->(Ov->Hp->Prop)->Prop
 |0,done,_,ov,H,k=>match dR done 0 ops with
  |[]=>k ov H
  |_=>False
 |n+1,done,O,ov,H,k =>
  match ge P done 0 ops with
  |some (i,o)=>gd E ops ov o (fun ov=>Ej P E ov H o fun v H'=>qZ P E ops am n (i::done) (jH E ov H' i o v++O) (kR o.dst v ov) H' k)
    (fun ov=>qZ P E ops am n (i::done) O (kR o.dst (.tup []) ov) H k)
  |none=>match dR done 0 ops with
   |[]=>k ov H
   |rs=>D1 rs fun io =>
    gd E ops ov io.2 (fun ov=>E7 P E ov H io.2 fun v H'=>EF E H' io.2 (fj (am.getD io.1 0) O) fun H' =>
     qZ P E ops am n (io.1::done) (fj (am.getD io.1 0) O) (kR io.2.dst v ov) H' k)
     (fun ov=>qZ P E ops am n (io.1::done) O (kR io.2.dst (.tup []) ov) H k)
def nt:Code->Option Nat
 |.region id _ _=>some id
 |.seq x y=>match nt x with
  |some k=>some k
  |none=>nt y
 |.cond _ x y=>match nt x with
  |some k=>some k
  |none=>nt y
 |.block _ x|.loop x|.scope x=>nt x
 |_=>none
def Ds:List gC->Option Nat->Option gC
 |_,none=>none
 |[],_=>none
 |l::r,some k=>match Nat.beq l.key k with
  |true=>some l
  |false=>Ds r (some k)
def Fp(E:En)(ov:Ov):List Nat->List Nat
 |[]=>[]
 |t::r=>match fO E ov t with
  |.a (.c (.loc i _))=>i::Fp E ov r
  |_=>Fp E ov r
def Do(E:En)(ov:Ov)(l:List gC)(k:Option Nat):Option gC :=
 match Ds l k with
 |some l=>some { l with hv:=Fp E ov l.hv }
 |none=>none
def wg:C->Option CK
 |.v (.int k _)=>some (.i k)
 |.v (.bool _)|.sb _|.sp _ _=>some .b
 |.v (.string _)=>some .s
 |.v (.slice _ _ _)|.lsl _ _ _ _=>some .sl
 |.v (.pointer _)|.pt _|.loc _ _=>some .p
 |.v (.map _)=>some .m
 |.v (.func (.func _) _ _)=>some .f
 |_=>none
def iS:List C->Option (List CK)
 |[]=>some []
 |c::r=>match wg c,iS r with
  |some k,some l=>some (k::l)
  |_,_=>none
def DU:CK->CK->Bool
 |.i k,.i k'=>qo k k'
 |.b,.b|.s,.s|.p,.p|.sl,.sl|.m,.m|.f,.f=>true
 |_,_=>false
def yT:List CK->List CK->Bool
 |[],[]=>true
 |x::r,y::s=>match DU x y with
  |true=>yT r s
  |false=>false
 |_,_=>false
def sf(l m:List C):Bool :=
 match iS l,iS m with
 |some k,some k'=>yT k k'
 |_,_=>false
def jF:V->V->Bool
 |.a (.c c),.a (.c c')=>sf [c] [c']
 |.a (.agg l),.a (.agg m)=>sf l m
 |_,_=>false
def eV:Ov->Ov->Bool
 |[],[]=>true
 |(t,v)::r,(t',v')::s=>match Nat.beq t t',jF v v' with
  |true,true=>eV r s
  |_,_=>false
 |_,_=>false
def il:List (Nat×TypeId×List C)->List (Nat×TypeId×List C)->Bool
 |[],[]=>true
 |(i,T,l)::r,(j,U,m)::s=>match Nat.beq i j,Nat.beq T U,sf l m with
  |true,true,true=>il r s
  |_,_,_=>false
 |_,_=>false
def E9(v:V)(Q:V->Prop):Prop :=
 match v with
 |.a (.c c)=>match wg c with
  |some k=>xW [k] fun l=>match l with
   |[c]=>Q (.a (.c c))
   |_=>False
  |none=>False
 |.a (.agg l)=>match iS l with
  |some ks=>xW ks fun l=>Q (.a (.agg l))
  |none=>False
 |_=>False
def BV(E:En)(ov:Ov):List Nat->(Ov->Prop)->Prop
 |[],Q=>Q []
 |t::r,Q=>E9 (fO E ov t) fun v=>BV E ov r fun l=>Q ((t,v)::l)
def xw:List (Nat×TypeId×List C)->(List (Nat×TypeId×List C)->Prop)->Prop
 |[],Q=>Q []
 |(i,T,l)::r,Q=>match iS l with
  |some ks=>xW ks fun l=>xw r fun m=>Q ((i,T,l)::m)
  |none=>False
def gV(ρ:List Nat):Ov->List Value
 |[]=>[]
 |(_,v)::r=>v.den ρ::gV ρ r
def ir(ρ:List Nat):List (Nat×TypeId×List C)->List Value
 |[]=>[]
 |(_,_,l)::r=>bJ ρ l++ir ρ r
def aQ(E:En)(ov:Ov):List Nat->Ov
 |[]=>[]
 |t::r=>(t,fO E ov t)::aQ E ov r
def tL:List Nat->Ov
 |[]=>[]
 |t::r=>(t,.j)::tL r
def oq(E:En)(ov:Ov)(out:List Nat):Nat->List V->List V
 |_,[]=>[]
 |t,v::r=>(match jB t out with
  |true=>.j
  |false=>match ce ov t with
   |some x=>x
   |none=>v)::oq E ov out (t+1) r
def nI(l:List Nat):Ov->Bool
 |[]=>true
 |(t,_)::r=>match jB t l with
  |true=>nI l r
  |false=>false
def aw(E:En)(ov:Ov)(H:Hp)(l:gC):En :=
 { n:=E.n,base:=oq E ov (l.live++l.junk) 0 E.base,rho:=ah E H,ro:=cC l.hv H.hp++E.ro,an:=E.an }
def bp(hv:List (Nat×TypeId×List C))(w:World):Hp:={ rho:=[],hp:=hv,w:=w,S:=[],old:=0,clean:=true }
def cG(H:Hp)(l:gC)(H':Hp):Hp :=
 { rho:=H.rho++H'.rho,hp:=H'.hp++cC l.hv H.hp,w:=H'.w,S:=H'.S,old:=H.rho.length+H'.old,clean:=H'.clean }
def iw(ov:Ov)(l:gC)(ov':Ov):Ov:=ov'++(tL (l.live++l.junk)++ov)
def nJ(E':En)(l:gC)(xs0:Ov)(hv0:List (Nat×TypeId×List C))(ov':Ov)(H':Hp)(k:List Value->World->Prop):Prop :=
 match nI (l.live++l.junk) ov',eV xs0 (aQ E' ov' l.live),il hv0 (aH l.hv H'.hp) with
 |true,true,true=>eX E' H' l.hv fun H'=>k (gV (ah E' H') (aQ E' ov' l.live)++ir (ah E' H') (aH l.hv H'.hp)) H'.w
 |_,_,_=>False
def nM(H:Hp):List Nat->Bool
 |[]=>true
 |i::r=>match ce H.hp i with
  |some _=>nM H r
  |none=>false
def f8(P:Program):Code->En->Ov->Hp->(Exit->Ov->Hp->Prop)->Prop
 |.skip,_,ov,H,K=>K .normal ov H
 |.region id ops false,E,ov,H,K=>match jB id E.an.dead with
  |true=>False
  |false=>zD P E ops.toList ops.toList ov H (K .normal)
 |.region _ ops true,E,ov,H,K=>match r9 ops with
  |true=>qZ P E ops.toList (eO ops.toList []) ops.toList.length [] [] ov { H with clean:=false } (K .normal)
  |false=>False
 |.seq x y,E,ov,H,K=>match Do E ov E.an.cuts (nt y) with
  |none=>f8 P x E ov H fun e ov' H'=>match e with
   |.normal=>f8 P y E ov' H' K
   |e=>K e ov' H'
  |some l=>match nM H l.hv,eV (aQ E ov l.live) (aQ E ov l.live),il (aH l.hv H.hp) (aH l.hv H.hp) with
   |true,true,true=>∃J:List Value->World->Prop,
    (eX E H l.hv fun H=>f8 P x (aw E ov H l) (aQ E ov l.live) (bp (aH l.hv H.hp) H.w) fun e ov' H'=>match e with
      |.normal=>nJ (aw E ov H l) l (aQ E ov l.live) (aH l.hv H.hp) ov' H' J
      |e=>K e (iw ov l ov') (cG H l H'))/\
    BV E ov l.live fun xs=>xw (aH l.hv H.hp) fun hv=>∀w1,lS E.an.lt (H.rho.drop H.old) w1 (j6 (ah E H) hv w1 (J (gV (ah E H) xs++ir (ah E H) hv) w1->
     f8 P y E (iw ov l xs) (cG H l (bp hv w1)) K))
   |_,_,_=>False
 |.cond c x y,E,ov,H,K=>match c,ev E ov c with
  |.tmp t,.a (.c c)=>Ei c (f8 P x E ((t,wC true)::ov) H K) (f8 P y E ((t,wC false)::ov) H K)
  |_,.a (.c c)=>Ei c (f8 P x E ov H K) (f8 P y E ov H K)
  |_,_=>False
 |.block id c,E,ov,H,K=>f8 P c E ov H fun e ov' H'=>match e with
  |.exit id'=>match Nat.beq id' id with
   |true=>K .normal ov' H'
   |false=>K (.exit id') ov' H'
  |e=>K e ov' H'
 |.loop c,E,ov,H,K=>match Do E ov E.an.loops (nt c) with
  |none=>False
  |some l=>match nM H l.hv,eV (aQ E ov l.live) (aQ E ov l.live),il (aH l.hv H.hp) (aH l.hv H.hp) with
   |true,true,true=>∃(I:List Value->World->Prop) (μ:List Value->World->Nat),
    (eX E H l.hv fun H=>I (gV (ah E H) (aQ E ov l.live)++ir (ah E H) (aH l.hv H.hp)) H.w)/\
    BV E ov l.live fun xs=>xw (aH l.hv H.hp) fun hv=>∀w1,lS E.an.lt (H.rho.drop H.old) w1 (j6 (ah E H) hv w1 (I (gV (ah E H) xs++ir (ah E H) hv) w1->
     f8 P c (aw E ov H l) xs (bp hv w1) fun e ov' H'=>match e with
      |.normal=>nJ (aw E ov H l) l (aQ E ov l.live) (aH l.hv H.hp) ov' H' fun vs w=>I vs w/\μ vs w<μ (gV (ah E H) xs++ir (ah E H) hv) w1
      |e=>K e (iw ov l ov') (cG H l H')))
   |_,_,_=>False
 |.exit id,_,ov,H,K=>K (.exit id) ov H
 |.scope x,E,ov,H,K=>f8 P x E ov H fun e ov' H'=>match e with
  |.goto _=>False
  |e=>K e ov' H'
 |.ret,_,ov,H,K=>K .ret ov H
 |.label _,_,ov,H,K=>K .normal ov H
 |_,_,_,_,_=>False
def vH(P:Program)(E:En)(ov:Ov)(H:Hp):List ResultVar->(List A->Hp->Prop)->Prop
 |[],k=>k [] H
 |.tmp t::r,k=>match fO E ov t with
  |.a x=>vH P E ov H r fun l H=>k (x::l) H
  |_=>False
 |.cell a t::r,k=>qj P E H t (fO E ov a) fun v H=>match v with
  |.a x=>vH P E ov H r fun l H=>k (x::l) H
  |_=>False
def Ez(P:Program)(E:En)(fn:Func)(R:Ending->World->Prop):Exit->Ov->Hp->Prop
 |.normal,ov,H|.ret,ov,H=>vH P E ov H fn.results.toList fun l H=>match l with
  |[x]=>eX E H (DR x) fun H=>R (.returned (x.den (ah E H))) H.w
  |l=>eX E H [] fun H=>R (.returned (.tuple (fg (ah E H) l).toArray)) H.w
 |_,_,_=>False
def mY:Nat->List V
 |0=>[]
 |n+1=>.tup []::mY n
def EO(P:Program)(an:Eh)(fn:Func)(args:List V)(rho:List Nat)(hp:List (Nat×TypeId×List C))(w:World)(R:Ending->World->Prop):Prop :=
 match fn.body with
 |none=>False
 |some c=>match Nat.ble args.length fn.ntmps,cP args with
  |true,true=>f8 P c { n:=fn.ntmps,base:=args++mY (fn.ntmps - args.length),rho:=[],ro:=[],an:=an } [] { rho:=rho,hp:=hp,w:=w,S:=[],old:=rho.length,clean:=true }
    (Ez P { n:=fn.ntmps,base:=args++mY (fn.ntmps - args.length),rho:=[],ro:=[],an:=an } fn R)
  |_,_=>False
end Go.Vc
namespace Go.Vc
open Go
theorem di(ρ:List Nat)(l:List C):bJ ρ l=l.map (C.den ρ):=by
 induction l with
 |nil=>rfl
 |cons c r ih=>simp[bJ,ih]
theorem gr(ρ:List Nat)(l:List A):fg ρ l=l.map (A.den ρ):=by
 induction l with
 |nil=>rfl
 |cons c r ih=>simp[fg,ih]
theorem m7(ρ:List Nat)(l:List V):dY ρ l=l.map (V.den ρ):=by
 induction l with
 |nil=>rfl
 |cons c r ih=>simp[dY,ih]
theorem CZ(ρ:List Nat)(l:List (Nat×V)):kz ρ l=l.map (fun x=>(x.1,x.2.den ρ)):=by
 induction l with
 |nil=>rfl
 |cons c r ih=>obtain⟨i,x⟩:=c;simp[kz,ih]
theorem Ab(E:En)(ov:Ov)(l:List Operand):lP E ov l=l.map (ev E ov):=by
 induction l with
 |nil=>rfl
 |cons c r ih=>simp[lP,ih]
theorem BH(E:En)(ov:Ov)(l:List (Nat×Operand)):rq E ov l=l.map (fun x=>(x.1,ev E ov x.2)):=by
 induction l with
 |nil=>rfl
 |cons c r ih=>obtain⟨i,x⟩:=c;simp[rq,ih]
theorem rb(ρ l:List Nat):Br ρ l=l.map (fun i=>ρ.getD i 0):=by
 induction l with
 |nil=>rfl
 |cons c r ih=>simp[Br,ih]
theorem fI(n:Nat)(l:List Nat):jB n l=true↔n∈l:=by
 induction l with
 |nil=>simp[jB]
 |cons k r ih =>
  simp only[jB,List.mem_cons]
  split
  ·rename_i h;simp[Nat.eq_of_beq_eq_true h]
  ·rename_i h;have:=Nat.ne_of_beq_eq_false h;simp[ih,this]
theorem fC(n:Nat)(l:List Nat):jB n l=false↔n∉l:=by
 rw[<-fI];simp
theorem dH{ρ l:List Nat}{i:Nat}(h:i<ρ.length):(ρ++l).getD i 0=ρ.getD i 0:=by
 simp[List.getD,List.getElem?_append_left h]
theorem C.den_append{ρ l:List Nat}{c:C}(h:c.bd ρ.length):c.den (ρ++l)=c.den ρ:=by
 cases c<;>simp only[C.den,C.bd]at * <;> rw[dH h]
theorem fV{ρ l:List Nat}{cs:List C}(h:lj ρ.length cs):bJ (ρ++l) cs=bJ ρ cs:=by
 rw[di,di]
 exact List.map_congr_left fun c hc=>C.den_append (h c hc)
theorem A.den_append{ρ l:List Nat}{x:A}(h:x.bd ρ.length):x.den (ρ++l)=x.den ρ:=by
 cases x with
 |c x=>exact C.den_append h
 |agg cs=>simp only[A.den];rw[fV h]
 |agx _=>rfl
theorem C.bd_mono{n m:Nat}{c:C}(h:c.bd n)(hm:n<=m):c.bd m:=by
 cases c<;>simp only[C.bd]at * <;> omega
theorem A.bd_mono{n m:Nat}{x:A}(h:x.bd n)(hm:n<=m):x.bd m:=by
 cases x with
 |c x=>exact C.bd_mono h hm
 |agg l=>exact fun c hc=>C.bd_mono (h c hc) hm
 |agx _=>trivial
theorem V.rel_append{ρ:List Nat}{v:V}{y:Value}(h:v.rel ρ y)(l:List Nat):v.rel (ρ++l) y:=by
 cases v with
 |a x=>exact⟨A.bd_mono h.1 (by simp),by rw[A.den_append h.1];exact h.2⟩
 |tup xs =>
  refine⟨fun x hx=>A.bd_mono (h.1 x hx) (by simp),?_⟩
  rw[h.2,gr,gr]
  congr 2
  exact List.map_congr_left fun c hc=>(A.den_append (h.1 c hc)).symm
 |j=>trivial
theorem V.rel_den{ρ:List Nat}{v:V}{y:Value}(h:v.rel ρ y)(hj:cP [v]=true):y=v.den ρ:=by
 cases v with
 |a x=>exact h.2
 |tup xs=>exact h.2
 |j=>simp[cP]at hj
theorem KpL.refl(l:List Nat)(w:World):KpL l w w:=⟨rfl,rfl,rfl,Nat.le_refl _,Nat.le_refl _,fun _ _ _=>rfl⟩
theorem KpL.trans{l:List Nat}{a b c:World}(h:KpL l a b)(k:KpL l b c):KpL l a c :=
 ⟨k.os.trans h.os,k.tape.trans h.tape,k.output.trans h.output,Nat.le_trans h.drawn k.drawn,Nat.le_trans h.size k.size,
   fun i hi hn=>(k.blk i (Nat.lt_of_lt_of_le hi h.size) hn).trans (h.blk i hi hn)⟩
theorem KpL.mono{l m:List Nat}{a b:World}(h:KpL l a b)(hs:∀x∈l,x∈m):KpL m a b :=
 ⟨h.os,h.tape,h.output,h.drawn,h.size,fun i hi hn=>h.blk i hi (fun hl=>hn (hs i hl))⟩
theorem KpL.drew{l:List Nat}{a b:World}(h:KpL l a b):KpL l a b.drew:=⟨h.os,h.tape,h.output,Nat.le_succ_of_le h.drawn,h.size,h.blk⟩
theorem KpL.alloc{l:List Nat}{a b:World}(h:KpL l a b)(o:Obj):KpL l a (b.alloc o) :=
 ⟨h.os,h.tape,h.output,h.drawn,Nat.le_trans h.size (by simp),fun i hi hn=>by
   rw[<-h.blk i hi hn];show(b.heap.push o)[i]?=_
   rw[Array.getElem?_push,if_neg (by have:=h.size;omega)]⟩
theorem bZ{w:World}{b:Nat}{cs:Array Value}{T:TypeId}{fz:Nat×Nat}(h:w.heap[b]?=some (.cells cs T fz))(o:Nat):
 w.cell? ⟨b,o,none⟩=cs[o]?:=by simp[World.cell?,h]
theorem yB{w w':World}{a:Addr}(h:w'.heap[a.block]?=w.heap[a.block]?):w'.cell? a=w.cell? a:=by
 simp[World.cell?,h]
theorem ab{w:World}{b:Nat}{o:Obj}(h:w.heap[b]?=some o):b<w.heap.size :=
 (Array.getElem?_eq_some_iff.1 h).1
theorem Addr.add_block(a:Addr)(i:Nat):(a.add i).block=a.block:=by
 unfold Addr.add;split<;>rfl
theorem ao.kp{w w':World}{a:Addr}{l:List Value}(h:ao w a l)(k:KpL [] w w'):ao w' a l :=
 ⟨fun i v hv=>by
   have h1:=h.at_ i v hv
   have hlt:=World.block_lt_of_cell? _ _ h1
   rw[Addr.add_block]at hlt
   rw[<-h1];exact yB (by rw[Addr.add_block];exact k.blk _ hlt (by simp))⟩
theorem cO(ρ:List Nat)(l:List (Nat×TypeId×List C))(w:World):
 qy ρ l w↔∀i T cs,(i,T,cs)∈l->w.heap[ρ.getD i 0]?=some (.cells (bJ ρ cs).toArray T (0,0)):=by
 induction l with
 |nil=>simp[qy]
 |cons x r ih =>
  obtain⟨i,T,cs⟩:=x
  cases r with
  |nil =>
   simp only[qy,List.mem_singleton,Prod.mk.injEq]
   exact⟨fun h i' T' cs' ⟨h1,h2,h3⟩=>by subst h1 h2 h3;exact h,fun h=>h i T cs ⟨rfl,rfl,rfl⟩⟩
  |cons y r =>
   simp only[qy]at ih ⊢
   rw[ih]
   constructor
   ·rintro⟨h1,h2⟩ i' T' cs' hm
    rcases List.mem_cons.1 hm with h|h
    ·simp only[Prod.mk.injEq]at h;obtain⟨rfl,rfl,rfl⟩:=h;exact h1
    ·exact h2 _ _ _ h
   ·intro h
    exact⟨h i T cs (by simp),fun i' T' cs' hm=>h i' T' cs' (by simp[hm])⟩
theorem i6{α:Type}(ids:List Nat)(l:List (Nat×α)):∀x∈aH ids l,x∈l:=by
 induction l with
 |nil=>simp[aH]
 |cons y r ih =>
  obtain⟨i,a⟩:=y
  intro x hx
  simp only[aH]at hx
  split at hx
  ·rcases List.mem_cons.1 hx with h|h
   ·simp[h]
   ·exact List.mem_cons_of_mem _ (ih _ h)
  ·exact List.mem_cons_of_mem _ (ih _ hx)
theorem ms{α:Type}(ids:List Nat)(l:List (Nat×α)):∀x∈cC ids l,x∈l:=by
 induction l with
 |nil=>simp[cC]
 |cons y r ih =>
  obtain⟨i,a⟩:=y
  intro x hx
  simp only[cC]at hx
  split at hx
  ·exact List.mem_cons_of_mem _ (ih _ hx)
  ·rcases List.mem_cons.1 hx with h|h
   ·simp[h]
   ·exact List.mem_cons_of_mem _ (ih _ h)
theorem mw{α:Type}{ids:List Nat}{l:List (Nat×α)}{x:Nat×α}:x∈aH ids l↔x∈l/\x.1∈ids:=by
 induction l with
 |nil=>simp[aH]
 |cons y r ih =>
  obtain⟨i,a⟩:=y
  simp only[aH]
  split
  ·rename_i h;rw[fI]at h
   simp only[List.mem_cons,ih]
   constructor
   ·rintro(rfl|⟨h1,h2⟩);exact⟨.inl rfl,h⟩;exact⟨.inr h1,h2⟩
   ·rintro⟨rfl|h1,h2⟩;exact .inl rfl;exact .inr ⟨h1,h2⟩
  ·rename_i h;rw[fC]at h
   simp only[List.mem_cons,ih]
   constructor
   ·rintro⟨h1,h2⟩;exact⟨.inr h1,h2⟩
   ·rintro⟨rfl|h1,h2⟩;exact absurd h2 h;exact⟨h1,h2⟩
theorem mz{α:Type}{ids:List Nat}{l:List (Nat×α)}{x:Nat×α}:x∈cC ids l↔x∈l/\x.1∉ids:=by
 induction l with
 |nil=>simp[cC]
 |cons y r ih =>
  obtain⟨i,a⟩:=y
  simp only[cC]
  split
  ·rename_i h;rw[fI]at h
   simp only[List.mem_cons,ih]
   constructor
   ·rintro⟨h1,h2⟩;exact⟨.inr h1,h2⟩
   ·rintro⟨rfl|h1,h2⟩;exact absurd h h2;exact⟨h1,h2⟩
  ·rename_i h;rw[fC]at h
   simp only[List.mem_cons,ih]
   constructor
   ·rintro(rfl|⟨h1,h2⟩);exact⟨.inl rfl,h⟩;exact⟨.inr h1,h2⟩
   ·rintro⟨rfl|h1,h2⟩;exact .inl rfl;exact .inr ⟨h1,h2⟩
theorem eY{α:Type}(ids:List Nat)(l:List (Nat×α)):(cC ids l).Sublist l:=by
 induction l with
 |nil=>simp[cC]
 |cons y r ih =>
  obtain⟨i,a⟩:=y
  simp only[cC]
  split
  ·exact .cons _ ih
  ·exact .cons_cons _ ih
theorem ii{α:Type}(ids:List Nat)(l:List (Nat×α)):(aH ids l).Sublist l:=by
 induction l with
 |nil=>simp[aH]
 |cons y r ih =>
  obtain⟨i,a⟩:=y
  simp only[aH]
  split
  ·exact .cons_cons _ ih
  ·exact .cons _ ih
structure bD (E:En) (H:Hp) (wa:World):Prop where
 kp:KpL (Br (ah E H) H.S) H.w wa
 kn:qy (ah E H) (bT E H) wa
 nd:(ah E H).Nodup
 lt:∀b∈ah E H,b<wa.heap.size
 cl:H.clean=true->wa=H.w
 bdk:∀x∈bT E H,x.1<(ah E H).length/\lj (ah E H).length x.2.2
 ids:((bT E H).map (·.1)).Nodup
 old:∀i b,E.rho.length+H.old<=i->(ah E H)[i]?=some b->H.w.heap.size<=b
 oldle:H.old<=H.rho.length
 sb:∀i∈H.S,i<(ah E H).length
structure ct (E:En) (ρ:List Nat) (ov:Ov) (a:Act):Prop where
 df:a.defers=[]
 size:a.tmps.size=E.n
 bl:E.base.length=E.n
 rel:∀t,t<E.n->(fO E ov t).rel ρ (a.tmps.getD t undef)
theorem ct.append{E:En}{ρ:List Nat}{ov:Ov}{a:Act}(h:ct E ρ ov a)(l:List Nat):ct E (ρ++l) ov a :=
 ⟨h.df,h.size,h.bl,fun t ht=>V.rel_append (h.rel t ht) l⟩
theorem ta(E:En)(ov:Ov)(dst:Option Tmp)(v:V)(t:Nat)(ht:t<E.n):
 fO E (kR dst v ov) t=if dst=some t then v else fO E ov t:=by
 have hb:Nat.blt t E.n=true:=by simp[Nat.blt_eq,ht]
 cases dst with
 |none=>simp[kR]
 |some d =>
  simp only[kR,fO,hb,ce,Option.some.injEq]
  cases h:Nat.beq d t with
  |true=>have:=Nat.eq_of_beq_eq_true h;simp[this]
  |false=>have:=Nat.ne_of_beq_eq_false h;simp[this]
theorem ct.put{E:En}{ρ:List Nat}{ov:Ov}{a:Act}(h:ct E ρ ov a)(dst:Option Tmp){v:V}{y:Value}(hv:v.rel ρ y):
 ct E ρ (kR dst v ov) (a.put dst y):=by
 refine⟨by cases dst<;>exact h.df,by cases dst<;>simp[Act.put,h.size],h.bl,fun t ht=>?_⟩
 rw[ta E ov dst v t ht]
 have hs:t<a.tmps.size:=by rw[h.size];exact ht
 cases dst with
 |none=>simpa[Act.put]using h.rel t ht
 |some d =>
  simp only[Act.put,Option.some.injEq]
  by_cases hd:d=t
  ·subst hd;simp[hs,hv]
  ·rw[if_neg hd]
   have:(a.tmps.setIfInBounds d y).getD t undef=a.tmps.getD t undef:=by
    simp[hd]
   rw[this];exact h.rel t ht
theorem vu(l:List Value):BG l=l.map C.v:=by
 induction l with
 |nil=>rfl
 |cons x r ih=>simp[BG,ih]
theorem wn(ρ:List Nat)(l:List Value):bJ ρ (BG l)=l:=by
 rw[di,vu,List.map_map]
 conv=>rhs;rw[<-List.map_id l]
 rfl
theorem Ak(n:Nat)(l:List Value):lj n (BG l):=by
 intro c hc
 rw[vu]at hc
 obtain⟨x,_,rfl⟩:=List.mem_map.1 hc
 trivial
theorem pH(ρ:List Nat)(x:Value):(vX x).rel ρ x:=by
 cases x with
 |agg cs=>exact⟨Ak _ _,by simp[A.den,wn]⟩
 |tuple vs =>
  simp only[vX]
  split
  ·rename_i h;exact⟨by simp,by simp only[fg];rw[<-h]⟩
  ·trivial
 |_=>exact⟨trivial,rfl⟩
theorem bR{E:En}{ρ:List Nat}{ov:Ov}{a:Act}(h:ct E ρ ov a)(x:Operand):(ev E ov x).rel ρ (a.eval x):=by
 cases x with
 |tmp t =>
  by_cases ht:t<E.n
  ·exact h.rel t ht
  ·have:Nat.blt t E.n=false:=by
    cases hb:Nat.blt t E.n with
    |true=>rw[Nat.blt_eq]at hb;exact absurd hb ht
    |false=>rfl
   simp[ev,fO,this,V.rel]
 |const v=>exact pH ρ v
 |global g=>exact⟨trivial,rfl⟩
 |func f=>exact⟨trivial,rfl⟩
theorem bV{E:En}{ρ:List Nat}{ov:Ov}{a:Act}(h:ct E ρ ov a){x:Operand}{v:V}(he:ev E ov x=v)(hj:cP [v]=true):a.eval x=v.den ρ:=by
 subst he;exact V.rel_den (bR h x) hj
theorem cU{v:V}{l:List V}:cP (v::l)=true↔cP [v]=true/\cP l=true:=by
 cases v<;>simp[cP]
theorem tH{l:List V}(h:cP l=true):∀v∈l,cP [v]=true:=by
 induction l with
 |nil=>simp
 |cons x r ih =>
  rw[cU]at h
  intro v hv
  rcases List.mem_cons.1 hv with rfl|hv
  ·exact h.1
  ·exact ih h.2 v hv
theorem Ct{E:En}{ρ:List Nat}{ov:Ov}{a:Act}(h:ct E ρ ov a)(l:List Operand)(hj:cP (lP E ov l)=true):
 l.map a.eval=dY ρ (lP E ov l):=by
 rw[m7,Ab,List.map_map]
 rw[Ab]at hj
 exact List.map_congr_left fun x hx=>bV h rfl (tH hj _ (List.mem_map.2 ⟨x,hx,rfl⟩))
end Go.Vc
namespace Go.Vc
open Go
variable {P:Program}
theorem ai{t:TypeId}{d:TypeDesc}(h:P.underlying t=some d)(w:World):(underlying t).run P w=.ok d w:=by
 simp[underlying,h]
theorem aW{t:TypeId}{i:TypeInfo}(h:P.info? t=some i)(w:World):(typeInfo t).run P w=.ok i w:=by
 simp[typeInfo,h]
theorem jY{t:TypeId}{d:TypeDesc}(h:P.underlying t=some d):∃i,P.info? t=some i:=by
 unfold Program.underlying at h
 cases hi:P.info? t with
 |none=>simp[hi]at h
 |some i=>exact⟨i,rfl⟩
theorem jo{t:TypeId}{d:TypeDesc}(h:P.underlying t=some d)(w:World):(isAgg t).run P w=.ok (kY P t) w:=by
 simp only[isAgg,Sem.run_bind,ai h,Result.andThen_ok,kY,h]
 cases d<;>rfl
theorem gT{t:TypeId}{d:TypeDesc}(h:P.underlying t=some d)(w:World):(sizeOf t).run P w=.ok (aP P t) w:=by
 obtain⟨i,hi⟩:=jY h
 simp[sizeOf,aW hi,aP,hi]
theorem fX(a:Addr)(w:World):∀(n i:Nat) (acc:Array Value) (l:List Value),l.length=n->
 (∀k v,l[k]?=some v->w.cell? (a.add (i+k))=some v)->(loadCellsFrom a i n acc).run P w=.ok (acc++l.toArray) w:=by
 intro n
 induction n with
 |zero =>
  intro i acc l hl _
  have:l=[]:=List.length_eq_zero_iff.1 hl
  subst this
  simp[loadCellsFrom]
 |succ n ih =>
  intro i acc l hl hc
  match l,hl with
  |x::r,hl =>
   have h0:=hc 0 x rfl
   simp only[Nat.add_zero]at h0
   simp only[loadCellsFrom,Sem.run_bind,run_load,h0,Result.andThen_ok]
   rw[ih (i+1) (acc.push x) r (by simpa using hl) (fun k v hk=>by
    have:=hc (k+1) v (by simpa using hk)
    rw[show i+1+k=i+(k+1) from by omega];exact this)]
   simp
theorem ik{t:TypeId}{d:TypeDesc}(h:P.underlying t=some d)(ha:kY P t=true){a:Addr}{w:World}{l:List Value}
 (hl:l.length=aP P t)(hc:ao w a l):(loadVar t a).run P w=.ok (.agg l.toArray) w:=by
 simp only[loadVar,Sem.run_bind,jo h,ha,Result.andThen_ok,if_true,gT h,loadCells]
 rw[fX a w (aP P t) 0 #[] l hl (fun k v hk=>by simpa using hc.at_ k v hk)]
 simp
theorem mZ{t:TypeId}{d:TypeDesc}(h:P.underlying t=some d)(ha:kY P t=false){a:Addr}{w:World}{v:Value}
 (hc:ao w a [v]):(loadVar t a).run P w=.ok v w:=by
 have h0:=hc.at_ 0 v rfl
 have e:a.add 0=a:=by simp[Addr.add]
 rw[e]at h0
 simp[loadVar,jo h,ha,h0]
theorem jv:∀(l:List C) (off n:Nat),oQ l off n=(l.drop off).take n
 |[],_,0=>by simp[oQ]
 |_::_,_,0=>by simp[oQ]
 |[],off,n+1=>by simp[oQ]
 |x::r,0,n+1=>by simp[oQ,jv r 0 n]
 |x::r,off+1,n+1=>by simp[oQ,jv r off (n+1)]
theorem Cm{n:Nat}{l m:List C}(h:lj n l)(hs:∀x∈m,x∈l):lj n m:=fun c hc=>h c (hs c hc)
theorem jq{w:World}{b:Nat}{cs:List Value}{T:TypeId}{fz:Nat×Nat}(h:w.heap[b]?=some (.cells cs.toArray T fz))(off n:Nat):
 ao w ⟨b,off,none⟩ ((cs.drop off).take n):=by
 refine⟨fun i v hv=>?_⟩
 have e:(Addr.add ⟨b,off,none⟩ i)=⟨b,off+i,none⟩:=by unfold Addr.add;split<;>simp_all
 rw[e,bZ h]
 rw[List.getElem?_take]at hv
 split at hv
 ·rw[List.getElem?_drop]at hv;simpa using hv
 ·simp at hv
theorem sR(ks:List CK):∀(Q:List C->Prop),Ba ks Q->∃l:List C,l.length=ks.length/\(∀n,lj n l)/\Q l:=by
 induction ks with
 |nil=>exact fun Q h=>⟨[],rfl,fun n c hc=>by simp at hc,h⟩
 |cons k r ih =>
  intro Q h
  cases k<;>simp only[Ba]at h
  case i k=>obtain⟨x,h⟩:=h;obtain⟨l,h1,h2,h3⟩:=ih _ h;exact⟨_::l,by simp[h1],fun n c hc=>by rcases List.mem_cons.1 hc with rfl|hc;trivial;exact h2 n c hc,h3⟩
  case b=>obtain⟨x,h⟩:=h;obtain⟨l,h1,h2,h3⟩:=ih _ h;exact⟨_::l,by simp[h1],fun n c hc=>by rcases List.mem_cons.1 hc with rfl|hc;trivial;exact h2 n c hc,h3⟩
  case s=>obtain⟨x,h⟩:=h;obtain⟨l,h1,h2,h3⟩:=ih _ h;exact⟨_::l,by simp[h1],fun n c hc=>by rcases List.mem_cons.1 hc with rfl|hc;trivial;exact h2 n c hc,h3⟩
  case p=>obtain⟨x,h⟩:=h;obtain⟨l,h1,h2,h3⟩:=ih _ h;exact⟨_::l,by simp[h1],fun n c hc=>by rcases List.mem_cons.1 hc with rfl|hc;trivial;exact h2 n c hc,h3⟩
  case sl=>obtain⟨x,y,z,h⟩:=h;obtain⟨l,h1,h2,h3⟩:=ih _ h;exact⟨_::l,by simp[h1],fun n c hc=>by rcases List.mem_cons.1 hc with rfl|hc;trivial;exact h2 n c hc,h3⟩
  case m=>obtain⟨x,h⟩:=h;obtain⟨l,h1,h2,h3⟩:=ih _ h;exact⟨_::l,by simp[h1],fun n c hc=>by rcases List.mem_cons.1 hc with rfl|hc;trivial;exact h2 n c hc,h3⟩
  case f=>obtain⟨x,y,z,h⟩:=h;obtain⟨l,h1,h2,h3⟩:=ih _ h;exact⟨_::l,by simp[h1],fun n c hc=>by rcases List.mem_cons.1 hc with rfl|hc;trivial;exact h2 n c hc,h3⟩
def zI(P:Program)(t:TypeId)(x:A):Prop :=
 (∃d,P.underlying t=some d)/\
 ((kY P t=true/\((∃l,x=.agg l/\l.length=aP P t)∨(∃l,x=.agx l/\l.length=aP P t)))∨(kY P t=false/\∃c,x=.c c))
theorem mF{n:Nat}{t:TypeId}{ks:List CK}(h:pN P n t=some ks):∃d,P.underlying t=some d:=by
 cases n with
 |zero=>simp[pN]at h
 |succ n =>
  simp only[pN]at h
  cases hu:P.underlying t with
  |none=>simp[hu]at h
  |some d=>exact⟨d,rfl⟩
theorem vo{t:TypeId}(h:kY P t=true):∃d,P.underlying t=some d:=by
 unfold kY at h
 cases hu:P.underlying t with
 |none=>simp[hu]at h
 |some d=>exact⟨d,rfl⟩
theorem kF{t:TypeId}{Q:A->Prop}(h:Em P t Q):∃x:A,(∀n,x.bd n)/\zI P t x/\Q x:=by
 unfold Em at h
 split at h
 ·rename_i ks hk
  split at h
  ·rename_i ha hb
   obtain⟨l,h1,h2,h3⟩:=sR _ _ h
   exact⟨.agg l,fun n=>h2 n,⟨mF hk,.inl ⟨ha,.inl ⟨l,rfl,by rw[h1];exact Nat.eq_of_beq_eq_true hb⟩⟩⟩,h3⟩
  ·rename_i ha
   obtain⟨l,h1,h2,h3⟩:=sR _ _ h
   split at h3
   ·rename_i c
    exact⟨.c c,fun n=>h2 n c (by simp),⟨mF hk,.inr ⟨ha,c,rfl⟩⟩,h3⟩
   ·exact h3.elim
  ·exact h.elim
 ·split at h
  ·rename_i ha
   obtain⟨l,h1,h2⟩:=h
   exact⟨.agx l,fun _=>trivial,⟨vo ha,.inl ⟨ha,.inr ⟨l,rfl,h1⟩⟩⟩,h2⟩
  ·exact h.elim
theorem lN(ts:List TypeId):∀(Q:List A->Prop),zz P ts Q->∃l:List A,(∀n,∀x∈l,A.bd n x)/\Q l:=by
 induction ts with
 |nil=>exact fun Q h=>⟨[],fun n x hx=>by simp at hx,h⟩
 |cons t r ih =>
  intro Q h
  obtain⟨x,h1,_,h2⟩:=kF h
  obtain⟨l,h3,h4⟩:=ih _ h2
  exact⟨x::l,fun n y hy=>by rcases List.mem_cons.1 hy with rfl|hy;exact h1 n;exact h3 n y hy,h4⟩
theorem iJ{t:TypeId}{Q:V->Prop}(h:D3 P t Q):∃v:V,(∀ρ,v.rel ρ (v.den ρ))/\Q v:=by
 unfold D3 at h
 split at h
 ·obtain⟨l,h1,h2⟩:=lN _ _ h
  exact⟨.tup l,fun ρ=>⟨h1 _,rfl⟩,h2⟩
 ·obtain⟨x,h1,_,h2⟩:=kF h
  exact⟨.a x,fun ρ=>⟨h1 _,rfl⟩,h2⟩
theorem od{t:TypeId}{x:A}(h:zI P t x){a:Addr}{w:World}{ρ:List Nat}(hc:ao w a (qB ρ x)):
 (loadVar t a).run P w=.ok (x.den ρ) w:=by
 obtain⟨⟨d,hd⟩,h⟩:=h
 rcases h with ⟨ha,⟨l,rfl,hl⟩|⟨l,rfl,hl⟩⟩|⟨ha,c,rfl⟩
 ·exact ik hd ha (by rw[di];simpa using hl) hc
 ·exact ik hd ha hl hc
 ·exact mZ hd ha hc
theorem iA(ρ:List Nat)(l:List C)(o n:Nat):((bJ ρ l).drop o).take n=bJ ρ ((l.drop o).take n):=by
 rw[di,di,<-List.map_drop,<-List.map_take]
theorem mU{t:TypeId}{l:List C}{off:Nat}{x:A}{n:Nat}(h:mp P t l off=some x)(hb:lj n l)(ρ:List Nat):
 x.bd n/\zI P t x/\∃m,qB ρ x=((bJ ρ l).drop off).take m:=by
 unfold mp at h
 split at h
 ·cases h
 rename_i d0 hd0
 have hd:∃d,P.underlying t=some d:=⟨d0,hd0⟩
 split at h
 ·rename_i ha
  split at h
  ·rename_i hle
   simp only[Option.some.injEq]at h
   subst h
   rw[jv]
   refine⟨Cm hb fun x hx=>List.mem_of_mem_drop (List.mem_of_mem_take hx),⟨hd,.inl ⟨ha,.inl ⟨_,rfl,?_⟩⟩⟩,_,(iA ρ l off _).symm⟩
   have:=Nat.le_of_ble_eq_true hle
   simp;omega
  ·cases h
 ·rename_i ha
  split at h
  ·rename_i c hg
   simp only[Option.some.injEq]at h
   subst h
   rw[jv]at hg
   refine⟨hb c (List.mem_of_mem_drop (List.mem_of_mem_take (by rw[hg];simp))),⟨hd,.inr ⟨ha,c,rfl⟩⟩,1,?_⟩
   rw[iA,hg];rfl
  ·cases h
theorem fF{α:Type}{l:List (Nat×α)}{i:Nat}{x:α}(h:ce l i=some x):(i,x)∈l:=by
 induction l with
 |nil=>simp[ce]at h
 |cons y r ih =>
  obtain⟨k,v⟩:=y
  simp only[ce]at h
  split at h
  ·rename_i hb;have:=Nat.eq_of_beq_eq_true hb;simp only[Option.some.injEq]at h;subst this h;simp
  ·exact List.mem_cons_of_mem _ (ih h)
end Go.Vc
namespace Go.Vc
open Go
variable {P:Program}
theorem ye(E:En)(H:Hp)(ids:List Nat):∀x∈wv E H ids,x∈bT E H:=by
 unfold wv
 split
 ·exact fun x hx=>hx
 ·exact i6 _ _
theorem qy.sub{ρ:List Nat}{l m:List (Nat×TypeId×List C)}{w:World}(h:qy ρ l w)(hs:∀x∈m,x∈l):qy ρ m w:=by
 rw[cO]at h ⊢
 exact fun i T cs hm=>h i T cs (hs _ hm)
theorem fR{ρ:List Nat}{l:List (Nat×TypeId×List C)}{w:World}{k:Prop}(h:j6 ρ l w k)(hk:qy ρ l w):k:=by
 unfold j6 at h
 split at h
 ·exact h
 ·exact h hk
theorem su:∀{l:List Nat} {w:World} {k:Prop},FC l w k->(∀b∈l,b<w.heap.size)->k
 |[],_,_,h,_=>h
 |b::r,_,_,h,hl=>su (h (hl b (by simp))) fun c hc=>hl c (by simp[hc])
theorem iP{t:Bool}{l:List Nat}{w:World}{k:Prop}(h:lS t l w k)(hl:∀b∈l,b<w.heap.size):k:=by
 unfold lS at h
 split at h
 ·exact h
 ·exact su h hl
theorem bD.ltd{E:En}{H:Hp}{w:World}(h:bD E H w)(n:Nat):∀b∈H.rho.drop n,b<w.heap.size:=fun b hb=>h.lt b (List.mem_append_right _ (List.mem_of_mem_drop hb))
theorem bA{E:En}{H:Hp}{ids:List Nat}{k:Hp->Prop}{wa:World}(h:eX E H ids k)(hs:bD E H wa):
 ∃H',k H'/\bD E H' wa/\H'.w=wa/\H'.rho=H.rho/\H'.hp=H.hp:=by
 have hkn:=hs.kn.sub (ye E H ids)
 unfold eX at h
 split at h
 ·rename_i hc
  have:=hs.cl hc
  subst this
  exact⟨H,fR h hkn,hs,rfl,rfl,rfl⟩
 ·have h1:=fR (iP (h wa hs.kp) (hs.ltd _)) hkn
  refine⟨_,h1,⟨KpL.refl _ _,hs.kn,hs.nd,hs.lt,fun _=>rfl,hs.bdk,hs.ids,?_,Nat.le_refl _,by simp⟩,rfl,rfl,rfl⟩
  intro i b hi hb
  have:i<(E.rho++H.rho).length:=(List.getElem?_eq_some_iff.1 hb).1
  simp at this
  simp at hi
  omega
theorem ph(E:En)(H:Hp)(l:List (Nat×TypeId×List C))(F:List Nat):
 lh E H l F↔∀x∈l,af ((ah E H).getD x.1 0) F:=by
 induction l with
 |nil=>simp[lh]
 |cons x r ih =>
  obtain⟨i,T,cs⟩:=x
  cases r with
  |nil=>simp[lh]
  |cons y r =>
   simp only[lh]at ih ⊢
   rw[ih]
   simp
theorem dx{E:En}{H:Hp}{F:List Nat}{wb:World}{hp':List (Nat×TypeId×List C)}(hs:bD E H H.w)(hk:KpL F H.w wb)
 (hsub:hp'.Sublist H.hp)(hsp:lh E H (hp'++E.ro) F):bD E (fc { H with hp:=hp' } wb) wb:=by
 rw[ph]at hsp
 have hsub2:(hp'++E.ro).Sublist (bT E H):=hsub.append (List.Sublist.refl _)
 refine⟨KpL.refl _ _,?_,hs.nd,fun b hb=>Nat.lt_of_lt_of_le (hs.lt b hb) hk.size,fun _=>rfl,fun x hx=>hs.bdk x (hsub2.subset hx),?_,?_,Nat.le_refl _,by simp[fc]⟩
 ·rw[cO]
  intro i T cs hm
  have hm':(i,T,cs)∈bT E H:=hsub2.subset hm
  have h1:=(cO _ _ _).1 hs.kn i T cs hm'
  have hlt:=ab h1
  show wb.heap[(ah E H).getD i 0]?=some (.cells (bJ (ah E H) cs).toArray T (0,0))
  rw[<-h1]
  exact hk.blk _ hlt (hsp _ hm).no
 ·exact(hsub2.map _).nodup hs.ids
 ·intro i b hi hb
  have:i<(E.rho++H.rho).length:=(List.getElem?_eq_some_iff.1 hb).1
  simp at this
  simp[fc]at hi
  omega
theorem yF(E:En)(H:Hp)(l:List (Nat×TypeId×List C)):lh E H l []:=by
 rw[ph];exact fun x _=>⟨by simp⟩
theorem j3{E:En}{H:Hp}{T:TypeId}{cs:List C}{k:Nat->Hp->Prop}{wa:World}(h:CO E H T cs k)(hs:bD E H wa)
 (hb:lj (ah E H).length cs):
 ∃H',k (ah E H).length H'/\bD E H' (wa.alloc (.cells (bJ (ah E H) cs).toArray T))/\H'.rho=H.rho++[wa.heap.size]:=by
 have hle:=hs.kp.size
 refine⟨_,h wa.heap.size hle,?_,rfl⟩
 have hρ:ah E { H with rho:=H.rho++[wa.heap.size],hp:=((ah E H).length,T,cs)::H.hp,clean:=false }=ah E H++[wa.heap.size]:=by
  simp[ah]
 have hkn:bT E { H with rho:=H.rho++[wa.heap.size],hp:=((ah E H).length,T,cs)::H.hp,clean:=false }=((ah E H).length,T,cs)::bT E H:=rfl
 have hget:(ah E H++[wa.heap.size]).getD (ah E H).length 0=wa.heap.size:=by simp[List.getD]
 have hmono:∀x∈bT E H,x.1<(ah E H++[wa.heap.size]).length/\lj (ah E H++[wa.heap.size]).length x.2.2:=fun x hx=>by
  have h1:=hs.bdk x hx
  exact⟨by simp;omega,fun c hc=>C.bd_mono (h1.2 c hc) (by simp)⟩
 refine⟨?_,?_,?_,?_,by simp,?_,?_,?_,?_,?_⟩
 ·rw[hρ]
  refine(hs.kp.alloc _).mono ?_
  intro x hx
  rw[rb]at hx ⊢
  obtain⟨i,hi,rfl⟩:=List.mem_map.1 hx
  exact List.mem_map.2 ⟨i,hi,dH (hs.sb i hi)⟩
 ·rw[hρ,hkn,cO]
  intro i T' cs' hm
  rcases List.mem_cons.1 hm with h1|h1
  ·simp only[Prod.mk.injEq]at h1
   obtain⟨rfl,rfl,rfl⟩:=h1
   rw[hget,fV hb]
   show(wa.heap.push _)[wa.heap.size]?=_
   simp
  ·have h2:=(cO _ _ _).1 hs.kn i T' cs' h1
   have h3:i<(ah E H).length/\lj (ah E H).length cs':=hs.bdk _ h1
   rw[dH h3.1,fV h3.2,<-h2]
   have:=ab h2
   show(wa.heap.push _)[_]?=_
   rw[Array.getElem?_push,if_neg (by omega)]
 ·rw[hρ]
  rw[List.nodup_append]
  refine⟨hs.nd,by simp,?_⟩
  intro a ha b hb' heq
  simp at hb'
  subst hb'
  have:=hs.lt a ha
  omega
 ·rw[hρ]
  intro b hb'
  rcases List.mem_append.1 hb' with h1|h1
  ·have:=hs.lt b h1;simp;omega
  ·simp at h1;subst h1;simp
 ·rw[hρ,hkn]
  intro x hx
  rcases List.mem_cons.1 hx with rfl|hx
  ·exact⟨by simp,fun c hc=>C.bd_mono (hb c hc) (by simp)⟩
  ·exact hmono x hx
 ·rw[hkn]
  simp only[List.map_cons,List.nodup_cons]
  refine⟨?_,hs.ids⟩
  intro hm
  obtain⟨x,hx,he⟩:=List.mem_map.1 hm
  have:=(hs.bdk x hx).1
  omega
 ·rw[hρ]
  intro i b hi hb'
  by_cases hl:i<(ah E H).length
  ·exact hs.old i b hi (by rw[List.getElem?_append_left hl]at hb';exact hb')
  ·have:i<(ah E H++[wa.heap.size]).length:=(List.getElem?_eq_some_iff.1 hb').1
   simp at this
   have hi':i=(ah E H).length:=by omega
   subst hi'
   simp at hb'
   subst hb'
   exact hle
 ·have:=hs.oldle
  simp;omega
 ·rw[hρ]
  intro i hi
  have:=hs.sb i hi
  simp;omega
theorem mu{E:En}{H:Hp}{t:TypeId}{ad:Addr}{k:V->Hp->Prop}{wa:World}(h:wq P E H t ad k)(hs:bD E H wa):
 ∃x H',k (.a x) H'/\bD E H' wa/\H'.rho=H.rho/\(∀n,x.bd n)/\zI P t x/\ao wa ad (qB (ah E H') x):=by
 unfold wq at h
 split at h
 ·rename_i hS _
  obtain⟨x,h1,h2,h3,h4⟩:=kF h
  have hkp:=hs.kp
  rw[hS]at hkp
  exact⟨x,H,h4,hs,rfl,h1,h2,h3.kp hkp⟩
 ·obtain⟨H',h1,h2,rfl,h4,_⟩:=bA h hs
  obtain⟨x,h5,h6,h7,h8⟩:=kF h1
  exact⟨x,H',h8,h2,h4,h5,h6,h7⟩
theorem ud{E:En}{H:Hp}{i:Nat}{T:TypeId}{l:List C}(h:ve E H i=some (T,l)):(i,T,l)∈bT E H:=by
 unfold ve at h
 split at h
 ·rename_i x hx
  simp only[Option.some.injEq]at h
  subst h
  exact List.mem_append_left _ (fF hx)
 ·exact List.mem_append_right _ (fF h)
theorem kW{E:En}{H:Hp}{t:TypeId}{p:V}{y:Value}{k:V->Hp->Prop}{wa:World}(h:qj P E H t p k)(hs:bD E H wa)(hp:p.rel (ah E H) y):
 ∃x H' ad,k (.a x) H'/\bD E H' wa/\H'.rho=H.rho/\x.bd (ah E H).length/\zI P t x/\y=.pointer (some ad)/\ao wa ad (qB (ah E H') x)/\
  ((∃i off,p=.a (.c (.loc i off))/\ad=⟨(ah E H').getD i 0,off,none⟩)∨p=.a (.c (.v (.pointer (some ad))))):=by
 unfold qj at h
 split at h
 ·rename_i i off
  obtain⟨hb,rfl⟩:=hp
  split at h
  ·rename_i T l hl
   split at h
   ·rename_i x hx
    have hm:=ud hl
    have h1:=(cO _ _ _).1 hs.kn _ _ _ hm
    obtain⟨h2,h3,m,h4⟩:=mU hx (hs.bdk _ hm).2 (ah E H)
    exact⟨x,H,_,h,hs,rfl,h2,h3,rfl,by rw[h4];exact jq h1 _ _,.inl ⟨i,off,rfl,rfl⟩⟩
   ·exact h.elim
  ·obtain⟨x,H',h1,h2,h3,h4,h5,h6⟩:=mu h hs
   have e:ah E H'=ah E H:=by simp[ah,h3]
   exact⟨x,H',_,h1,h2,h3,h4 _,h5,rfl,h6,.inl ⟨i,off,rfl,by rw[e]⟩⟩
 ·rename_i ad
  obtain⟨hb,rfl⟩:=hp
  obtain⟨x,H',h1,h2,h3,h4,h5,h6⟩:=mu h hs
  exact⟨x,H',ad,h1,h2,h3,h4 _,h5,rfl,h6,.inr rfl⟩
 ·exact h.elim
theorem gw{α:Type}:∀(l:List α) (off:Nat),setL l off []=l
 |l,0=>by cases l<;>simp[setL]
 |[],off+1=>by simp[setL]
 |x::r,off+1=>by simp[setL,gw r off]
theorem lr{α:Type}:∀(l:List α) (off:Nat) (v:α) (r:List α),off<l.length->setL l off (v::r)=setL (l.set off v) (off+1) r
 |[],_,_,_,h=>by simp at h
 |x::l,0,v,r,_=>by simp[setL]
 |x::l,off+1,v,r,h=>by simp[setL,lr l off v r (by simpa using h)]
theorem kJ{α β:Type}(f:α->β):∀(l:List α) (off:Nat) (r:List α),(setL l off r).map f=setL (l.map f) off (r.map f)
 |l,0,[]=>by simp[gw]
 |[],0,_::_=>by simp[setL]
 |x::l,0,v::r=>by simp[setL,kJ f l 0 r]
 |[],off+1,r=>by simp[setL]
 |x::l,off+1,r=>by simp[setL,kJ f l off r]
theorem eM{α:Type}:∀(l:List α) (off:Nat) (r:List α),(setL l off r).length=l.length
 |l,0,[]=>by simp[gw]
 |[],0,_::_=>by simp[setL]
 |x::l,0,v::r=>by simp[setL,eM l 0 r]
 |[],off+1,r=>by simp[setL]
 |x::l,off+1,r=>by simp[setL,eM l off r]
theorem kj{α:Type}:∀(l:List α) (off:Nat) (r:List α) (x:α),x∈setL l off r->x∈l∨x∈r
 |l,0,[],x,h=>by rw[gw]at h;exact .inl h
 |[],0,_::_,x,h=>by simp[setL]at h
 |y::l,0,v::r,x,h=>by
  simp only[setL,List.mem_cons]at h ⊢
  rcases h with h|h
  ·exact .inr (.inl h)
  ·rcases kj l 0 r x h with h|h
   ·exact .inl (.inr h)
   ·exact .inr (.inr h)
 |[],off+1,r,x,h=>by simp[setL]at h
 |y::l,off+1,r,x,h=>by
  simp only[setL,List.mem_cons]at h ⊢
  rcases h with h|h
  ·exact .inl (.inl h)
  ·rcases kj l off r x h with h|h
   ·exact .inl (.inr h)
   ·exact .inr h
theorem al(b off i:Nat):Addr.add ⟨b,off,none⟩ i=⟨b,off+i,none⟩:=by
 unfold Addr.add;split<;>simp_all
theorem lR(a:Addr):∀(l:List Value) (i:Nat) (w:World) (k:Nat),k≠a.block->(bL w a l i).heap[k]?=w.heap[k]?:=by
 intro l
 induction l with
 |nil=>intros;rfl
 |cons v r ih =>
  intro i w k hk
  simp only[bL]
  rw[ih _ _ _ hk]
  simp only[World.setCell,Array.getElem?_modify]
  rw[if_neg (by rw[Addr.add_block];omega)]
theorem jr(a:Addr):∀(l:List Value) (i:Nat) (w:World),(bL w a l i).heap.size=w.heap.size/\(bL w a l i).os=w.os/\(bL w a l i).tape=w.tape/\(bL w a l i).output=w.output:=by
 intro l
 induction l with
 |nil=>intros;exact⟨rfl,rfl,rfl,rfl⟩
 |cons v r ih =>
  intro i w
  simp only[bL]
  have:=ih (i+1) (w.setCell (a.add i) v)
  simpa[World.setCell]using this
theorem lv(a:Addr):∀(l:List Value) (i:Nat) (w:World),(bL w a l i).drawn=w.drawn
 |[],_,_=>rfl
 |_::r,i,w=>lv a r (i+1) _
theorem cK(w:World)(a:Addr)(l:List Value):KpL [a.block] w (bL w a l 0):=by
 obtain⟨h1,h2,h3,h4⟩:=jr a l 0 w
 exact⟨h2,h3,h4,by rw[lv];exact Nat.le_refl _,by omega,fun b _ hn=>lR a l 0 w b (by simpa using hn)⟩
theorem oO{w:World}{b:Nat}{cs:List Value}{T:TypeId}{fz:Nat×Nat}(h:w.heap[b]?=some (.cells cs.toArray T fz))(o:Nat)(v:Value):
 (w.setCell ⟨b,o,none⟩ v).heap[b]?=some (.cells (cs.set o v).toArray T fz):=by
 simp[World.setCell,Array.getElem?_modify,h]
theorem je{b off:Nat}{T:TypeId}{fz:Nat×Nat}:∀(l:List Value) (i:Nat) (w:World) (cs:List Value),w.heap[b]?=some (.cells cs.toArray T fz)->
 off+i+l.length<=cs.length->(bL w ⟨b,off,none⟩ l i).heap[b]?=some (.cells (setL cs (off+i) l).toArray T fz):=by
 intro l
 induction l with
 |nil=>intro i w cs h _;simpa[bL,gw]using h
 |cons v r ih =>
  intro i w cs h hl
  simp only[List.length_cons]at hl
  simp only[bL,al]
  rw[lr _ _ _ _ (by omega)]
  exact ih (i+1) _ _ (oO h _ _) (by simp;omega)
theorem uG{x:Value}(h:jA x=true):x.cells=#[x]:=by
 cases x<;>simp_all[jA,Value.cells]
theorem Ew{x:Value}(h:jA x=true):x.oneCell'=true:=by
 cases x<;>simp_all[jA,Value.oneCell']
theorem fK(a:Addr):∀(l:List Value) (i:Nat) (w:World),(∀v∈l,jA v=true)->
 (∀k,k<l.length->∃u,w.cell? (a.add (i+k))=some u)->(∀k,k<l.length->w.frozen? (a.add (i+k))=false)->
 (storeCells a l i).run P w=.ok () (bL w a l i):=by
 intro l
 induction l with
 |nil=>intros;rfl
 |cons v r ih =>
  intro i w h1 h2 h3
  obtain⟨u,hu⟩:=h2 0 (by simp)
  have hf:=h3 0 (by simp)
  simp only[Nat.add_zero]at hu hf
  simp only[storeCells,Sem.run_bind,run_store P w (a.add i) v .plain (Ew (h1 v (by simp))),hu,hf,Bool.false_eq_true,if_false,Result.andThen_ok,bL]
  refine ih (i+1) _ (fun v hv=>h1 v (by simp[hv])) (fun k hk=>?_) (fun k hk=>?_)
  ·obtain⟨u',hu'⟩:=h2 (k+1) (by simpa using hk)
   rw[show i+1+k=i+(k+1) from by omega]
   by_cases he:a.add i=a.add (i+(k+1))
   ·rw[<-he];exact⟨v,World.cell?_setCell_same _ _ _ hu⟩
   ·rw[World.cell?_setCell_other (h:=he) ..];exact⟨u',hu'⟩
  ·rw[show i+1+k=i+(k+1) from by omega,World.frozen?_setCell]
   exact h3 (k+1) (by simpa using hk)
theorem fp{t:TypeId}{d:TypeDesc}(hd:P.underlying t=some d){a:Addr}{v:Value}{l:List Value}{w:World}(hv:v.cells.toList=l)(hl:l.length=aP P t)
 (h1:∀v∈l,jA v=true)(h2:∀k,k<l.length->∃u,w.cell? (a.add k)=some u)(h3:∀k,k<l.length->w.frozen? (a.add k)=false):
 (storeVar t a v).run P w=.ok () (bL w a l 0):=by
 have hsz:v.cells.size=aP P t:=by rw[<-hl,<-hv];simp
 simp only[storeVar,Sem.run_bind,gT hd,Result.andThen_ok,hsz,ne_eq,not_true,if_false,hv]
 exact fK a l 0 w h1 (fun k hk=>by simpa using h2 k hk) (fun k hk=>by simpa using h3 k hk)
end Go.Vc
namespace Go.Vc
open Go
variable {P:Program}
theorem fm{v:V}{cs:List C}{ρ:List Nat}{y:Value}(h:iG v=some cs)(hr:v.rel ρ y):
 y.cells.toList=bJ ρ cs/\lj ρ.length cs:=by
 unfold iG at h
 split at h
 ·simp only[Option.some.injEq]at h;subst h
  obtain⟨h1,rfl⟩:=hr
  exact⟨by simp[A.den,Value.cells],h1⟩
 ·rename_i x
  split at h
  ·rename_i h1
   simp only[Option.some.injEq]at h;subst h
   obtain⟨_,rfl⟩:=hr
   exact⟨by simp[C.den,bJ,uG h1],fun c hc=>by simp at hc;subst hc;trivial⟩
  ·cases h
 ·rename_i c hc
  simp only[Option.some.injEq]at h;subst h
  obtain⟨h1,rfl⟩:=hr
  refine⟨?_,fun c' hc'=>by simp at hc';subst hc';exact h1⟩
  cases c with
  |v x=>exact absurd rfl (hc x)
  |pt a=>rfl
  |sb b=>rfl
  |sp p d=>rfl
  |loc i off=>rfl
  |lsl i off len cap=>rfl
 ·cases h
theorem cQ(ρ:List Nat):∀{cs:List C},gh cs=true->∀y∈bJ ρ cs,jA y=true
 |[],_,y,hy=>by simp[bJ]at hy
 |.v x::r,h,y,hy=>by
  simp only[gh]at h
  split at h
  ·rename_i h1
   simp only[bJ,List.mem_cons]at hy
   rcases hy with rfl|hy
   ·exact h1
   ·exact cQ ρ h y hy
  ·cases h
 |.pt a::r,h,y,hy=>by
  simp only[bJ,List.mem_cons]at hy
  rcases hy with rfl|hy
  ·rfl
  ·exact cQ ρ (by simpa[gh]using h) y hy
 |.sb b::r,h,y,hy=>by
  simp only[bJ,List.mem_cons]at hy
  rcases hy with rfl|hy
  ·rfl
  ·exact cQ ρ (by simpa[gh]using h) y hy
 |.sp p d::r,h,y,hy=>by
  simp only[bJ,List.mem_cons]at hy
  rcases hy with rfl|hy
  ·rfl
  ·exact cQ ρ (by simpa[gh]using h) y hy
 |.loc i o::r,h,y,hy=>by
  simp only[bJ,List.mem_cons]at hy
  rcases hy with rfl|hy
  ·rfl
  ·exact cQ ρ (by simpa[gh]using h) y hy
 |.lsl i o l c::r,h,y,hy=>by
  simp only[bJ,List.mem_cons]at hy
  rcases hy with rfl|hy
  ·rfl
  ·exact cQ ρ (by simpa[gh]using h) y hy
theorem bO(ρ:List Nat)(l:List C):(bJ ρ l).length=l.length:=by rw[di];simp
theorem dA{E:En}{H:Hp}{l:List (Nat×TypeId×List C)}{F:List Nat}{k:Prop}(h:fM E H l F k):lh E H l F/\k:=by
 unfold fM at h
 split at h
 ·exact⟨trivial,h⟩
 ·exact h
theorem iY{E:En}{H:Hp}{ad:Addr}{cs:List Value}{k:V->Hp->Prop}{wa:World}(h:vQ E H ad cs k)(hs:bD E H wa):
 ∃H',k (.tup []) H'/\bD E H' (bL wa ad cs 0)/\H'.rho=H.rho/\(∀i,i<cs.length->∃u,wa.cell? (ad.add i)=some u)/\(∀i,i<cs.length->wa.frozen? (ad.add i)=false):=by
 obtain⟨H',h1,h2,rfl,h4,h5⟩:=bA h hs
 obtain⟨⟨old,ho,hol⟩,hf,hspk⟩:=h1
 obtain⟨hsp,hk⟩:=dA hspk
 refine⟨_,hk _ rfl,?_,h4,fun i hi=>?_,hf.at_⟩
 ·exact dx (hp':=H'.hp) h2 (cK _ _ _) (List.Sublist.refl _) hsp
 ·have:i<old.length:=by omega
  exact⟨old[i],ho.at_ i _ (by simp[this])⟩
theorem pZ{i off:Nat}{cs:List C}:∀{l:List (Nat×TypeId×List C)},(l.map (·.1)).Nodup->∀{T m},ce l i=some (T,m)->
 ∀x,x∈jE i off cs l↔x=(i,T,setL m off cs)∨(x∈l/\x.1≠i)
 |[],_,T,m,h,x=>by simp[ce]at h
 |(k,T',m')::r,hn,T,m,h,x=>by
  simp only[ce]at h
  simp only[List.map_cons,List.nodup_cons]at hn
  simp only[jE]
  cases hb:Nat.beq k i with
  |true =>
   rw[hb]at h
   have hk:=Nat.eq_of_beq_eq_true hb
   simp only[Option.some.injEq,Prod.mk.injEq]at h
   obtain⟨rfl,rfl⟩:=h
   subst hk
   simp only[List.mem_cons]
   constructor
   ·rintro(rfl|hx)
    ·exact .inl rfl
    ·exact .inr ⟨.inr hx,fun he=>hn.1 (List.mem_map.2 ⟨x,hx,he⟩)⟩
   ·rintro(rfl|⟨rfl|hx,hne⟩)
    ·exact .inl rfl
    ·exact absurd rfl hne
    ·exact .inr hx
  |false =>
   rw[hb]at h
   have hk:=Nat.ne_of_beq_eq_false hb
   simp only[List.mem_cons,pZ hn.2 h x]
   constructor
   ·rintro(rfl|rfl|⟨hx,hne⟩)
    ·exact .inr ⟨.inl rfl,hk⟩
    ·exact .inl rfl
    ·exact .inr ⟨.inr hx,hne⟩
   ·rintro(rfl|⟨rfl|hx,hne⟩)
    ·exact .inr (.inl rfl)
    ·exact .inl rfl
    ·exact .inr (.inr ⟨hx,hne⟩)
theorem nv(i off:Nat)(cs:List C):∀(l:List (Nat×TypeId×List C)),(jE i off cs l).map (·.1)=l.map (·.1)
 |[]=>rfl
 |(k,T,m)::r=>by
  simp only[jE]
  split
  ·rfl
  ·simp[nv i off cs r]
theorem uM{ρ:List Nat}(h:ρ.Nodup){i j:Nat}(hi:i<ρ.length)(hj:j<ρ.length)(he:ρ.getD i 0=ρ.getD j 0):i=j:=by
 simp only[List.getD,List.getElem?_eq_getElem hi,List.getElem?_eq_getElem hj,Option.getD_some]at he
 rcases Nat.lt_trichotomy i j with hij|hij|hij
 ·exact absurd he (List.pairwise_iff_getElem.1 h i j hi hj hij)
 ·exact hij
 ·exact absurd he.symm (List.pairwise_iff_getElem.1 h j i hj hi hij)
theorem sw{E:En}{H:Hp}{i off:Nat}{T:TypeId}{l cs:List C}{wa:World}(hs:bD E H wa)(hl:ce H.hp i=some (T,l))
 (hlen:off+cs.length<=l.length)(hb:lj (ah E H).length cs):
 bD E { H with hp:=jE i off cs H.hp,S:=(match Nat.blt i (E.rho.length+H.old) with|true=>i::H.S|false=>H.S),clean:=false }
  (bL wa ⟨(ah E H).getD i 0,off,none⟩ (bJ (ah E H) cs) 0):=by
 have hmem:(i,T,l)∈bT E H:=List.mem_append_left _ (fF hl)
 have hblk:=(cO _ _ _).1 hs.kn _ _ _ hmem
 have hi:=(hs.bdk _ hmem).1
 have hids:=hs.ids
 have hnd:(H.hp.map (·.1)).Nodup:=by
  simp only[bT,List.map_append]at hids
  exact(List.nodup_append.1 hids).1
 have hro:∀x∈E.ro,x.1≠i:=by
  simp only[bT,List.map_append]at hids
  intro x hx he
  exact(List.nodup_append.1 hids).2.2 i (List.mem_map.2 ⟨_,fF hl,rfl⟩) x.1 (List.mem_map.2 ⟨x,hx,rfl⟩) he.symm
 obtain⟨f1,f2,f3,f4⟩:=jr ⟨(ah E H).getD i 0,off,none⟩ (bJ (ah E H) cs) 0 wa
 have hmem':∀x,x∈jE i off cs H.hp++E.ro->x=(i,T,setL l off cs)∨(x∈bT E H/\x.1≠i):=by
  intro x hx
  rcases List.mem_append.1 hx with h|h
  ·rcases (pZ hnd hl x).1 h with h|h
   ·exact .inl h
   ·exact .inr ⟨List.mem_append_left _ h.1,h.2⟩
  ·exact .inr ⟨List.mem_append_right _ h,hro x h⟩
 refine⟨?_,?_,hs.nd,fun b hb'=>by rw[f1];exact hs.lt b hb',by simp,?_,?_,hs.old,hs.oldle,?_⟩
 ·
  have hk:=hs.kp
  refine⟨f2.trans hk.os,f3.trans hk.tape,f4.trans hk.output,by rw[lv];exact hk.drawn,by rw[f1];exact hk.size,fun b hb' hn=>?_⟩
  have hne:b≠(ah E H).getD i 0:=by
   rintro rfl
   by_cases hlt:i<E.rho.length+H.old
   ·have e1:Nat.blt i (E.rho.length+H.old)=true:=by simp[Nat.blt_eq,hlt]
    simp only[e1]at hn
    exact hn (by rw[rb];exact List.mem_map.2 ⟨i,by simp,rfl⟩)
   ·have h9:=hs.old i ((ah E H).getD i 0) (by omega) (by simp[List.getD,List.getElem?_eq_getElem hi])
    exact absurd hb' (Nat.not_lt.2 h9)
  rw[lR _ _ _ _ _ hne]
  refine hk.blk b hb' fun hm=>hn ?_
  rw[rb]at hm ⊢
  obtain⟨j,hj,rfl⟩:=List.mem_map.1 hm
  refine List.mem_map.2 ⟨j,?_,rfl⟩
  split
  ·exact List.mem_cons_of_mem _ hj
  ·exact hj
 ·show qy (ah E H) (jE i off cs H.hp++E.ro) _
  rw[cO]
  intro j T' cs' hm
  rcases hmem' _ hm with h|⟨h,hne⟩
  ·simp only[Prod.mk.injEq]at h
   obtain⟨rfl,rfl,rfl⟩:=h
   rw[je _ 0 wa _ hblk (by rw[bO,bO];omega)]
   simp only[Nat.add_zero,di,kJ]
  ·have h1:=(cO _ _ _).1 hs.kn _ _ _ h
   have hj:=(hs.bdk _ h).1
   rw[<-h1]
   exact lR _ _ _ _ _ fun he=>hne (uM hs.nd hj hi he)
 ·intro x hx
  show x.1<(ah E H).length/\lj (ah E H).length x.2.2
  rcases hmem' x hx with rfl|⟨h,_⟩
  ·refine⟨hi,fun c hc=>?_⟩
   rcases kj _ _ _ _ hc with h|h
   ·exact(hs.bdk _ hmem).2 c h
   ·exact hb c h
  ·exact hs.bdk x h
 ·show((jE i off cs H.hp++E.ro).map (·.1)).Nodup
  rw[List.map_append,nv,<-List.map_append]
  exact hs.ids
 ·intro j hj
  show j<(ah E H).length
  simp only at hj
  split at hj
  ·rcases List.mem_cons.1 hj with rfl|hj
   ·exact hi
   ·exact hs.sb j hj
  ·exact hs.sb j hj
theorem oT{E:En}{H:Hp}{t:TypeId}{p x:V}{yp yx:Value}{k:V->Hp->Prop}{wa:World}(h:qM P E H t p x k)(hs:bD E H wa)
 (hp:p.rel (ah E H) yp)(hx:x.rel (ah E H) yx):
 ∃ad w' H',yp=.pointer (some ad)/\(storeVar t ad yx).run P wa=.ok () w'/\k (.tup []) H'/\bD E H' w'/\H'.rho=H.rho:=by
 unfold qM at h
 split at h
 ·exact h.elim
 rename_i d hd
 split at h
 ·rename_i ad l
  obtain⟨hl,hone,h⟩:=h
  obtain⟨_,rfl⟩:=hp
  obtain⟨_,rfl⟩:=hx
  obtain⟨H',h1,h2,h3,h4,h5⟩:=iY h hs
  exact⟨ad,_,H',rfl,fp hd (by simp[A.den,Value.cells]) hl hone h4 h5,h1,h2,h3⟩
 ·split at h
  ·exact h.elim
  ·rename_i cs hcs
   obtain⟨hc1,hc2⟩:=fm hcs hx
   split at h
   ·rename_i hlen hone
    have hlen':=Nat.eq_of_beq_eq_true hlen
    have hone':=cQ (ah E H) hone
    split at h
    ·rename_i i off _
     obtain⟨_,rfl⟩:=hp
     split at h
     ·rename_i T l hlk
      split at h
      ·rename_i hle
       have hle':=Nat.le_of_ble_eq_true hle
       have hmem:(i,T,l)∈bT E H:=List.mem_append_left _ (fF hlk)
       have hblk:=(cO _ _ _).1 hs.kn _ _ _ hmem
       refine⟨_,_,_,rfl,fp hd hc1 (by rw[bO];exact hlen') hone' (fun j hj=>?_) (fun j _=>?_),h,sw hs hlk hle' hc2,rfl⟩
       ·rw[bO]at hj
        rw[al,bZ hblk]
        have:off+j<(bJ (ah E H) l).length:=by rw[bO];omega
        exact⟨(bJ (ah E H) l)[off+j],by simp[this]⟩
       ·rw[al]
        unfold World.frozen?
        simp only[hblk]
        simp
      ·exact h.elim
     ·split at h
      ·exact h.elim
      ·obtain⟨H',h1,h2,h3,h4,h5⟩:=iY h hs
       exact⟨_,_,H',rfl,fp hd hc1 (by rw[bO];exact hlen') hone' h4 h5,h1,h2,h3⟩
    ·rename_i ad _
     obtain⟨_,rfl⟩:=hp
     obtain⟨H',h1,h2,h3,h4,h5⟩:=iY h hs
     exact⟨ad,_,H',rfl,fp hd hc1 (by rw[bO];exact hlen') hone' h4 h5,h1,h2,h3⟩
    ·exact h.elim
   ·exact h.elim
theorem xy{E:En}{H:Hp}{ids:List Nat}{s:Sem Value}{t:TypeId}{k:V->Hp->Prop}{wa:World}(h:FD P E H ids s t k)(hs:bD E H wa):
 ∃y wb v H',s.run P wa=.ok y wb/\k v H'/\bD E H' wb/\H'.rho=H.rho/\v.rel (ah E H) y:=by
 obtain⟨H',h1,h2,rfl,h4,h5⟩:=bA h hs
 obtain⟨y,wb,hrun,hq⟩:=h1
 obtain⟨v,hv,rfl,F,hk,hspk⟩:=iJ hq
 obtain⟨hsp,hkk⟩:=dA hspk
 have e:ah E H'=ah E H:=by simp[ah,h4]
 exact⟨_,wb,v,_,hrun,hkk,dx (hp':=H'.hp) h2 hk (List.Sublist.refl _) hsp,h4,by rw[<-e];exact hv _⟩
theorem zt{x:Ex}{Q:V->Prop}(h:FH P x Q):∃v:V,(∀ρ,v.rel ρ (v.den ρ))/\Q v:=by
 cases x with
 |ptr =>
  obtain⟨ad,h⟩:=h
  exact⟨.a (.c (.v (.pointer (some ad)))),fun ρ=>⟨trivial,rfl⟩,h⟩
 |step ts =>
  rcases h with h|h
  ·exact⟨.tup [.c (.v (.bool false))],fun ρ=>⟨fun x hx=>by simp at hx;subst hx;trivial,rfl⟩,h⟩
  ·obtain⟨l,h1,h2⟩:=lN _ _ h
   exact⟨.tup (.c (.v (.bool true))::l),fun ρ=>⟨fun x hx=>by
    rcases List.mem_cons.1 hx with rfl|hx
    ·trivial
    ·exact h1 _ x hx,rfl⟩,h2⟩
 |entry ts =>
  obtain⟨l,h1,h2⟩:=lN _ _ h
  exact⟨.tup l,fun ρ=>⟨h1 _,rfl⟩,h2⟩
theorem oy{E:En}{H:Hp}{ids:List Nat}{s:Sem Value}{x:Ex}{k:V->Hp->Prop}{wa:World}(h:D0 P E H ids s x k)(hs:bD E H wa):
 ∃y wb v H',s.run P wa=.ok y wb/\k v H'/\bD E H' wb/\H'.rho=H.rho/\v.rel (ah E H) y:=by
 obtain⟨H',h1,h2,rfl,h4,h5⟩:=bA h hs
 obtain⟨y,wb,hrun,hq⟩:=h1
 obtain⟨v,hv,rfl,F,hk,hspk⟩:=zt hq
 obtain⟨hsp,hkk⟩:=dA hspk
 have e:ah E H'=ah E H:=by simp[ah,h4]
 exact⟨_,wb,v,_,hrun,hkk,dx (hp':=H'.hp) h2 hk (List.Sublist.refl _) hsp,h4,by rw[<-e];exact hv _⟩
end Go.Vc
namespace Go.Vc
open Go
variable {P:Program}
theorem aE{k:IntKind}{n:Int}(h:ar k n):k.wrap n=n:=by
 obtain⟨h1,h2⟩:=h
 cases k<;>simp only[IntKind.min,IntKind.max,IntKind.signed,IntKind.bits,IntKind.wrap,if_true,Bool.false_eq_true,if_false,Bool.true_and,Bool.false_and]at * <;>
  first
   |omega
   |(split<;>simp_all<;>omega)
theorem fW{wr:Bool}{k:IntKind}{n:Int}{Q:C->Prop}(h:o9 wr k n Q):Q (.v (.int k (k.wrap n))):=by
 unfold o9 at h
 split at h
 ·obtain⟨h1,h2⟩:=h
  rw[aE h1];exact h2
 ·exact h
theorem kX{k k':IntKind}(h:qo k k'=true):k=k':=by
 cases k<;>cases k'<;>first|rfl|(simp[qo]at h)
theorem rx{wr:Bool}{op:BinOp}{k:IntKind}{x y:Int}{Q:C->Prop}{xt:TypeId}{xo yo:Operand}(h:zw wr op k x y Q):
 ∃c,Q c/\(∀n,c.bd n)/\∀ρ w,(do eqGuard op xt xo yo (.int k x) (.int k y);binOp op xt (.int k x) (.int k y):Sem Value).run P w=.ok (c.den ρ) w:=by
 cases op<;>simp only[zw]at h
 case add=>exact⟨_,fW h,fun _=>trivial,fun ρ w=>by simp[eqGuard,binOp,Op.intArith,C.den]⟩
 case sub=>exact⟨_,fW h,fun _=>trivial,fun ρ w=>by simp[eqGuard,binOp,Op.intArith,C.den]⟩
 case mul=>exact⟨_,fW h,fun _=>trivial,fun ρ w=>by simp[eqGuard,binOp,Op.intArith,C.den]⟩
 case quo=>exact⟨_,h.2,fun _=>trivial,fun ρ w=>by simp[eqGuard,binOp,Op.intDiv,C.den,h.1]⟩
 case rem=>exact⟨_,h.2,fun _=>trivial,fun ρ w=>by simp[eqGuard,binOp,Op.intDiv,C.den,h.1]⟩
 case and=>exact⟨_,h,fun _=>trivial,fun ρ w=>by simp[eqGuard,binOp,Op.intBits,C.den,aX]⟩
 case or=>exact⟨_,h,fun _=>trivial,fun ρ w=>by simp[eqGuard,binOp,Op.intBits,C.den,aX]⟩
 case xor=>exact⟨_,h,fun _=>trivial,fun ρ w=>by simp[eqGuard,binOp,Op.intBits,C.den,aX]⟩
 case andNot=>exact⟨_,h,fun _=>trivial,fun ρ w=>by simp[eqGuard,binOp,Op.intBits,C.den,aX]⟩
 case eql=>exact⟨_,h,fun _=>trivial,fun ρ w=>by simp[eqGuard,binOp,Op.intCmp,C.den];rfl⟩
 case neq=>exact⟨_,h,fun _=>trivial,fun ρ w=>by simp[eqGuard,binOp,Op.intCmp,C.den,bne];rfl⟩
 case lss=>exact⟨_,h,fun _=>trivial,fun ρ w=>by simp[eqGuard,binOp,Op.intCmp,C.den]⟩
 case leq=>exact⟨_,h,fun _=>trivial,fun ρ w=>by simp[eqGuard,binOp,Op.intCmp,C.den]⟩
 case gtr=>exact⟨_,h,fun _=>trivial,fun ρ w=>by simp[eqGuard,binOp,Op.intCmp,C.den]⟩
 case geq=>exact⟨_,h,fun _=>trivial,fun ρ w=>by simp[eqGuard,binOp,Op.intCmp,C.den]⟩
theorem oM{op:BinOp}{k k':IntKind}{x y:Int}{m:Option Nat}{Q:C->Prop}{xt:TypeId}{xo yo:Operand}(hm:∀n,m=some n->y=(n:Int))(h:qw op k x y m Q):
 ∃c,Q c/\(∀n,c.bd n)/\∀ρ w,(do eqGuard op xt xo yo (.int k x) (.int k' y);binOp op xt (.int k x) (.int k' y):Sem Value).run P w=.ok (c.den ρ) w:=by
 unfold qw at h
 split at h
 ·rename_i m
  have hy:=hm m rfl
  subst hy
  split at h
  ·rename_i hle
   have hle':=Nat.le_of_ble_eq_true hle
   exact⟨_,h,fun _=>trivial,fun ρ w=>by simp[eqGuard,binOp,Op.shift,C.den,show ¬((m:Int)<0) from by omega,Nat.min_eq_left hle']⟩
  ·rename_i hle
   have hle':=Nat.le_of_ble_eq_true hle
   exact⟨_,h,fun _=>trivial,fun ρ w=>by simp[eqGuard,binOp,Op.shift,C.den,show ¬((m:Int)<0) from by omega,Nat.min_eq_left hle']⟩
  ·exact h.elim
 ·split at h
  ·exact⟨_,h.2,fun _=>trivial,fun ρ w=>by simp[eqGuard,binOp,Op.shift,C.den,show ¬y<0 from by omega]⟩
  ·exact⟨_,h.2,fun _=>trivial,fun ρ w=>by simp[eqGuard,binOp,Op.shift,C.den,show ¬y<0 from by omega]⟩
  ·exact h.elim
theorem kI(a b:ByteArray):(a.toList == b.toList)=decide (a=b):=by
 have e:∀x:ByteArray,x.toList=x.data.toList:=ByteArray.toList_eq
 rw[e,e,Bool.eq_iff_iff,beq_iff_eq,decide_eq_true_iff]
 constructor
 ·intro h
  cases a;cases b
  simp_all
 ·rintro rfl;rfl
theorem sD{op:BinOp}{x y:ByteArray}{Q:C->Prop}{xt:TypeId}{xo yo:Operand}(h:Ax op x y Q):
 ∃c,Q c/\(∀n,c.bd n)/\∀ρ w,(do eqGuard op xt xo yo (.string x) (.string y);binOp op xt (.string x) (.string y):Sem Value).run P w=.ok (c.den ρ) w:=by
 cases op<;>simp only[Ax]at h
 case add=>exact⟨_,h.2,fun _=>trivial,fun ρ w=>by
  have h1:¬((x.size+y.size:Nat):Int)>IntKind.i64.max:=by
   have:IntKind.i64.max=9223372036854775807:=by decide
   rw[this];have:=h.1;omega
  simp only[eqGuard,binOp,Op.stringOp,h1];simp[C.den]⟩
 case eql=>exact⟨_,h,fun _=>trivial,fun ρ w=>by simp only[eqGuard,binOp,Op.stringOp,kI];simp[C.den]⟩
 case neq=>exact⟨_,h,fun _=>trivial,fun ρ w=>by simp only[eqGuard,binOp,Op.stringOp,kI];simp[C.den]⟩
 case lss=>exact⟨_,h,fun _=>trivial,fun ρ w=>by simp only[eqGuard,binOp,Op.stringOp];simp[C.den]⟩
 case leq=>exact⟨_,h,fun _=>trivial,fun ρ w=>by simp only[eqGuard,binOp,Op.stringOp];simp[C.den]⟩
 case gtr=>exact⟨_,h,fun _=>trivial,fun ρ w=>by simp only[eqGuard,binOp,Op.stringOp];simp[C.den]⟩
 case geq=>exact⟨_,h,fun _=>trivial,fun ρ w=>by simp only[eqGuard,binOp,Op.stringOp];simp[C.den]⟩
theorem qd{c:C}{b:Bool}(h:vZ c=some b)(ρ:List Nat):c.den ρ=.bool b:=by
 unfold vZ at h
 split at h<;>simp_all[C.den]
theorem iU{t:TypeId}(hu:P.underlying t=some .bool)(a b:Bool)(w:World):(Op.equal t (.bool a) (.bool b)).run P w=.ok (a == b) w:=by
 have h:∀d,(Op.equalIn (d+1) t (.bool a) (.bool b)).run P w=.ok (a == b) w:=fun d=>by
  rw[Op.equalIn]
  simp only[Sem.run_bind,ai hu,Result.andThen_ok,Sem.run_pure]
 exact h 9999
theorem uU{op:BinOp}{b b':Bool}{Q:C->Prop}{xt:TypeId}{xo yo:Operand}(h:DD op (b == b') Q):
 ∃c,Q c/\(∀n,c.bd n)/\∀ρ w,P.underlying xt=some .bool->(do eqGuard op xt xo yo (.bool b) (.bool b');binOp op xt (.bool b) (.bool b'):Sem Value).run P w=.ok (c.den ρ) w:=by
 cases op<;>simp only[DD]at h
 case eql=>exact⟨_,h,fun _=>trivial,fun ρ w hu=>by simp[eqGuard,binOp,C.den,iU hu]⟩
 case neq=>exact⟨_,h,fun _=>trivial,fun ρ w hu=>by simp[eqGuard,binOp,C.den,iU hu]⟩
theorem gO{xt:TypeId}{x y c:C}{ρ:List Nat}(h:uw P xt x y=some c)(w:World):
 (∀n,c.bd n)/\(∀n,(qO c).bd n)/\∃b,c.den ρ=.bool b/\(qO c).den ρ=.bool (!b)/\(Op.equal xt (x.den ρ) (y.den ρ)).run P w=.ok b w:=by
 have step:∀(u v:Value) (b:Bool),(∀d,(Op.equalIn (d+1) xt u v).run P w=.ok b w)->(Op.equal xt u v).run P w=.ok b w:=fun u v b hh=>hh 9999
 unfold uw at h
 split at h
 ·split at h
  ·rename_i hu
   simp only[Option.some.injEq]at h;subst h
   refine⟨fun _=>trivial,fun _=>trivial,_,rfl,?_,step _ _ _ fun d=>?_⟩
   ·simp[qO,C.den]
   ·rename_i a
    rw[Op.equalIn]
    simp only[Sem.run_bind,ai hu,Result.andThen_ok,C.den]
    cases a<;>simp
  ·rename_i hu
   simp only[Option.some.injEq]at h;subst h
   refine⟨fun _=>trivial,fun _=>trivial,_,rfl,by simp[qO,C.den],step _ _ _ fun d=>?_⟩
   rw[Op.equalIn]
   simp only[Sem.run_bind,ai hu,Result.andThen_ok,C.den]
   simp
  ·rename_i hu
   simp only[Option.some.injEq]at h;subst h
   refine⟨fun _=>trivial,fun _=>trivial,_,rfl,by simp[qO,C.den],step _ _ _ fun d=>?_⟩
   rw[Op.equalIn]
   simp only[Sem.run_bind,ai hu,Result.andThen_ok,C.den]
   simp
  ·cases h
 ·split at h
  ·rename_i hu
   simp only[Option.some.injEq]at h;subst h
   rename_i a _ _
   refine⟨fun _=>trivial,fun _=>trivial,decide (a=none),rfl,by simp[qO,C.den],step _ _ _ fun d=>?_⟩
   rw[Op.equalIn]
   simp only[Sem.run_bind,ai hu,Result.andThen_ok,C.den]
   cases a<;>simp
  ·cases h
 ·split at h
  ·rename_i hu
   simp only[Option.some.injEq]at h;subst h
   rename_i a
   refine⟨fun _=>trivial,fun _=>trivial,decide (a=none),rfl,by simp[qO,C.den],step _ _ _ fun d=>?_⟩
   rw[Op.equalIn]
   simp only[Sem.run_bind,ai hu,Result.andThen_ok,C.den]
   cases a<;>simp
  ·cases h
 ·cases h
theorem nT{xt:TypeId}{x y c:C}{ρ:List Nat}(h:uw P xt x y=some c)(op:BinOp)(xo yo:Operand)(w:World):
 (eqGuard op xt xo yo (x.den ρ) (y.den ρ)).run P w=.ok () w:=by
 unfold uw at h
 split at h
 ·unfold eqGuard
  cases op<;>simp[C.den]<;>(cases x<;>simp[C.den]<;>split<;>simp_all)
 ·unfold eqGuard
  cases op<;>simp[C.den]<;>(cases x<;>simp[C.den]<;>split<;>simp_all)
 ·unfold eqGuard
  cases op<;>simp[C.den]<;>(cases x<;>simp[C.den]<;>split<;>simp_all)
 ·cases h
theorem sn{xt:TypeId}{x y c:C}{ρ:List Nat}(h:uw P xt x y=some c)(w:World):
 (binOp .eql xt (x.den ρ) (y.den ρ)).run P w=((Op.equal xt (x.den ρ) (y.den ρ)).run P w).andThen (fun b w'=>.ok (.bool b) w')/\
 (binOp .neq xt (x.den ρ) (y.den ρ)).run P w=((Op.equal xt (x.den ρ) (y.den ρ)).run P w).andThen (fun b w'=>.ok (.bool (!b)) w'):=by
 unfold uw at h
 split at h
 ·split at h
  ·simp[C.den,binOp]
  ·simp[C.den,binOp]
  ·simp[C.den,binOp]
  ·cases h
 ·split at h
  ·simp[C.den,binOp]
  ·cases h
 ·split at h
  ·simp[C.den,binOp]
  ·cases h
 ·cases h
theorem uJ{E:En}{H:Hp}{op:BinOp}{xt:TypeId}{x y:V}{xo yo:Operand}{Q:C->Prop}{vx vy:Value}(h:DZ P E H op xt x y xo yo Q)
 (hx:x.rel (ah E H) vx)(hy:y.rel (ah E H) vy)(hyo:∀m,gX yo=some m->∃k,vy=.int k (m:Int)):
 ∃c,Q c/\(∀n,c.bd n)/\∀w,(do eqGuard op xt xo yo vx vy;binOp op xt vx vy:Sem Value).run P w=.ok (c.den (ah E H)) w:=by
 unfold DZ at h
 split at h
 ·obtain⟨_,rfl⟩:=hx
  obtain⟨_,rfl⟩:=hy
  split at h
  ·obtain⟨c,h1,h2,h3⟩:=oM (P:=P) (xt:=xt) (xo:=xo) (yo:=yo) (fun n hn=>by
    obtain⟨k,hk⟩:=hyo n hn
    simp only[A.den,C.den,Value.int.injEq]at hk
    exact hk.2) h
   exact⟨c,h1,h2,h3 _⟩
  ·split at h
   ·rename_i hk
    obtain rfl:=kX hk
    obtain⟨c,h1,h2,h3⟩:=rx (P:=P) (xt:=xt) (xo:=xo) (yo:=yo) h
    exact⟨c,h1,h2,h3 _⟩
   ·exact h.elim
 ·obtain⟨_,rfl⟩:=hx
  obtain⟨_,rfl⟩:=hy
  obtain⟨c,h1,h2,h3⟩:=sD (P:=P) (xt:=xt) (xo:=xo) (yo:=yo) h
  exact⟨c,h1,h2,h3 _⟩
 ·obtain⟨_,rfl⟩:=hx
  obtain⟨_,rfl⟩:=hy
  split at h
  ·rename_i c hc
   obtain⟨h1,_,_⟩:=gO (ρ:=ah E H) hc default
   refine⟨c,h,h1,fun w=>?_⟩
   obtain⟨_,_,b,hb1,_,hb3⟩:=gO (ρ:=ah E H) hc w
   simp only[A.den,Sem.run_bind,nT hc,Result.andThen_ok,hb1,(sn hc w).1,hb3]
  ·rename_i c hc
   obtain⟨_,h1,_⟩:=gO (ρ:=ah E H) hc default
   refine⟨qO c,h,h1,fun w=>?_⟩
   obtain⟨_,_,b,_,hb2,hb3⟩:=gO (ρ:=ah E H) hc w
   simp only[A.den,Sem.run_bind,nT hc,Result.andThen_ok,hb2,(sn hc w).2,hb3]
  split at h
  ·rename_i a b ha hb
   split at h
   ·rename_i hu
    obtain⟨c,h1,h2,h3⟩:=uU (P:=P) (xt:=xt) (xo:=xo) (yo:=yo) h
    refine⟨c,h1,h2,fun w=>?_⟩
    simp only[A.den,qd ha,qd hb]
    exact h3 _ w hu
   ·exact h.elim
  ·split at h
   ·obtain⟨b,h1,h2⟩:=h
    exact⟨_,h2,fun _=>trivial,fun w=>h1.run w⟩
   ·exact h.elim
 ·split at h
  ·rename_i hj
   obtain⟨b,h1,h2⟩:=h
   rw[cU]at hj
   obtain rfl:=V.rel_den hx hj.1
   obtain rfl:=V.rel_den hy hj.2
   exact⟨_,h2,fun _=>trivial,fun w=>h1.run w⟩
  ·exact h.elim
theorem tr{src dst:TypeId}{x:V}{g:(C->Prop)->Prop}{Q:C->Prop}{ρ:List Nat}{vx:Value}(h:zC P src dst x=some g)(hg:g Q)(hx:x.rel ρ vx):
 ∃c,Q c/\(∀n,c.bd n)/\∀w,(convert src dst vx).run P w=.ok (c.den ρ) w:=by
 unfold zC at h
 split at h
 ·rename_i h1 h2
  obtain⟨_,rfl⟩:=hx
  split at h
  ·simp only[Option.some.injEq]at h
   subst h
   refine⟨_,hg.2,fun _=>trivial,fun w=>?_⟩
   simp[convert,ai h1,ai h2,A.den,C.den,Conv.intToInt,aE hg.1]
  ·simp only[Option.some.injEq]at h
   subst h
   refine⟨_,hg,fun _=>trivial,fun w=>?_⟩
   simp[convert,ai h1,ai h2,A.den,C.den,Conv.intToInt]
 ·rename_i h1 h2
  obtain⟨_,rfl⟩:=hx
  simp only[Option.some.injEq]at h
  subst h
  refine⟨_,hg,fun _=>trivial,fun w=>?_⟩
  simp[convert,ai h1,ai h2,A.den,C.den]
 ·cases h
theorem lW{c:C}{t f:Prop}(h:Ei c t f)(ρ:List Nat):(c.den ρ=.bool true/\t)∨(c.den ρ=.bool false/\f):=by
 unfold Ei at h
 split at h
 ·exact .inl ⟨rfl,h⟩
 ·exact .inr ⟨rfl,h⟩
 ·rename_i b
  cases b
  ·exact .inr ⟨rfl,h.2 rfl⟩
  ·exact .inl ⟨rfl,h.1 rfl⟩
 ·rename_i p d
  by_cases hp:p
  ·exact .inl ⟨by simp[C.den,hp],h.1 hp⟩
  ·exact .inr ⟨by simp[C.den,hp],h.2 hp⟩
 ·exact h.elim
theorem tD{t:TypeId}(h:aP P t≠0):∃i,P.info? t=some i:=by
 unfold aP at h
 cases hi:P.info? t with
 |none=>simp[hi]at h
 |some i=>exact⟨i,rfl⟩
theorem cp{t:TypeId}(h:aP P t≠0)(w:World):(sizeOf t).run P w=.ok (aP P t) w:=by
 obtain⟨i,hi⟩:=tD h
 simp[sizeOf,aW hi,aP,hi]
theorem oJ{t:TypeId}{x:V}{f:Nat}{c:C}{ρ:List Nat}{vx:Value}(h:qD P t x f=some c)(hx:x.rel ρ vx):
 c.bd ρ.length/\∀w,(Instr.fieldAt t vx f).run P w=.ok (c.den ρ) w:=by
 unfold qD m8 at h
 cases hu:P.underlying t with
 |none=>simp[hu]at h
 |some d =>
  cases d<;>simp only[hu,reduceCtorEq]at h
  case struct fs =>
   cases hf:fs.toList[f]? with
   |none=>simp[hf]at h
   |some fd =>
    have hf':fs[f]?=some fd:=by simpa using hf
    simp only[hf]at h
    cases hz:Nat.beq (aP P fd.type) 0 with
    |true=>simp[hz]at h
    |false =>
     have hz':=Nat.ne_of_beq_eq_false hz
     simp only[hz]at h
     have hrun:∀a w,(fieldPlace a fd).run P w=.ok (a.add fd.offset) w:=fun a w=>by simp[fieldPlace,cp hz',hz']
     split at h
     ·simp only[Option.some.injEq]at h;subst h
      obtain⟨h1,rfl⟩:=hx
      refine⟨h1,fun w=>?_⟩
      simp[Instr.fieldAt,ai hu,hf',Instr.sureAddr,A.den,C.den,hrun,al]
     ·simp only[Option.some.injEq]at h;subst h
      obtain⟨h1,rfl⟩:=hx
      refine⟨trivial,fun w=>?_⟩
      simp[Instr.fieldAt,ai hu,hf',Instr.sureAddr,A.den,C.den,hrun]
     ·cases h
end Go.Vc
namespace Go.Vc
open Go
variable {P:Program}
theorem gY{e:TypeId}{Q:Prop}(h:pQ P e Q):aP P e≠0/\Q:=by
 unfold pQ at h
 split at h
 ·rename_i hb
  rw[Nat.blt_eq]at hb
  exact⟨by omega,h⟩
 ·exact h.elim
theorem eH{x:Operand}{m:Nat}(h:gX x=some m):∃k,x=.const (.int k (m:Int)):=by
 unfold gX at h
 split at h
 ·simp only[Option.some.injEq]at h;subst h;exact⟨_,rfl⟩
 ·cases h
theorem qk{E:En}{H:Hp}{t:TypeId}{x ix:V}{ixo:Operand}{Q:C->Prop}{a:Act}{vx vi:Value}(h:ux P E H t x ix ixo Q)
 (hx:x.rel (ah E H) vx)(hi:ix.rel (ah E H) vi)(ho:vi=a.eval ixo):
 ∃c,Q c/\c.bd (ah E H).length/\∀w,(Instr.indexAt t vx vi).run P w=.ok (c.den (ah E H)) w:=by
 unfold ux at h
 split at h
 ·rename_i kk n
  obtain⟨_,rfl⟩:=hi
  split at h
  ·rename_i e aa len cap hu
   obtain⟨_,rfl⟩:=hx
   obtain⟨hz,ad,rfl,h0,h1,h2⟩:=gY h
   exact⟨_,h2,trivial,fun w=>by simp[Instr.indexAt,asIntOf,ai hu,A.den,C.den,h0,h1,cp hz]⟩
  ·rename_i e i off len cap hu
   obtain⟨hb,rfl⟩:=hx
   obtain⟨hz,h'⟩:=gY h
   clear h
   split at h'
   ·rename_i m hm
    split at h'
    ·rename_i hlt
     rw[Nat.blt_eq]at hlt
     obtain⟨k',rfl⟩:=eH hm
     simp only[A.den,C.den,Act.eval,Value.int.injEq]at ho
     obtain⟨rfl,rfl⟩:=ho
     refine⟨_,h',hb,fun w=>?_⟩
     simp[Instr.indexAt,asIntOf,ai hu,A.den,C.den,cp hz,al]
     intro h9;omega
    ·exact h'.elim
   ·obtain⟨h0,h1,h2⟩:=h'
    exact⟨_,h2,trivial,fun w=>by simp[Instr.indexAt,asIntOf,ai hu,A.den,C.den,h0,h1,cp hz]⟩
  ·rename_i len e i off hu
   obtain⟨hb,rfl⟩:=hx
   obtain⟨hz,h'⟩:=gY h
   clear h
   split at h'
   ·rename_i m hm
    split at h'
    ·rename_i hlt _
     rw[Nat.blt_eq]at hlt
     obtain⟨k',rfl⟩:=eH hm
     simp only[A.den,C.den,Act.eval,Value.int.injEq]at ho
     obtain⟨rfl,rfl⟩:=ho
     refine⟨_,h',hb,fun w=>?_⟩
     simp[Instr.indexAt,Instr.sureAddr,asIntOf,ai hu,A.den,C.den,cp hz,al]
     intro h9;omega
    ·exact h'.elim
   ·obtain⟨h0,h1,h2⟩:=h'
    exact⟨_,h2,trivial,fun w=>by simp[Instr.indexAt,Instr.sureAddr,asIntOf,ai hu,A.den,C.den,h0,h1,cp hz]⟩
  ·rename_i len e ad hu
   obtain⟨_,rfl⟩:=hx
   obtain⟨hz,h0,h1,h2⟩:=gY h
   exact⟨_,h2,trivial,fun w=>by simp[Instr.indexAt,Instr.sureAddr,asIntOf,ai hu,A.den,C.den,h0,h1,cp hz]⟩
  ·exact h.elim
 ·exact h.elim
theorem nY{t:TypeId}{l:List C}{off:Nat}{x:A}{n:Nat}(h:mp P t l off=some x)(hb:lj n l)(ρ:List Nat)(w:World):
 x.bd n/\(part t (bJ ρ l).toArray off).run P w=.ok (x.den ρ) w:=by
 have h9:=(mU h hb ρ).1
 refine⟨h9,?_⟩
 unfold mp at h
 split at h
 ·cases h
 rename_i d hd
 split at h
 ·rename_i ha
  split at h
  ·simp only[Option.some.injEq]at h
   subst h
   simp[part,jo hd,ha,gT hd,A.den,jv,di,List.map_drop,List.map_take,List.extract_eq_take_drop]
  ·cases h
 ·rename_i ha
  split at h
  ·rename_i c hg
   simp only[Option.some.injEq]at h
   subst h
   rw[jv]at hg
   have h0:l[off]?=some c:=by
    have:=congrArg (fun z=>z[0]?) hg
    simpa using this
   have h1:(bJ ρ l)[off]?=some (c.den ρ):=by rw[di];simp[h0]
   simp[part,jo hd,ha,A.den,h1]
  ·cases h
theorem j4(off:Nat):∀(cs:List Value) (k:Nat) (L:List Value),off+k+cs.length<=L.length->
 (cs.zipIdx k).foldl (fun(acc:Array Value) x=>acc.setIfInBounds (off+x.2) x.1) L.toArray=(setL L (off+k) cs).toArray
 |[],k,L,_=>by simp[gw]
 |v::r,k,L,h=>by
  simp only[List.length_cons]at h
  simp only[List.zipIdx_cons,List.foldl_cons]
  rw[lr _ _ _ _ (by omega)]
  have:=j4 off r (k+1) (L.set (off+k) v) (by simp;omega)
  simpa[Nat.add_assoc]using this
theorem j0{pl:Nat->Option (Nat×Nat)}{ρ:List Nat}:∀{parts:List (Nat×V)} {l l':List C},im pl l parts=some l'->lj ρ.length l->
 (∀p∈parts,p.2.rel ρ (p.2.den ρ))->lj ρ.length l'/\Instr.fill pl (bJ ρ l).toArray (kz ρ parts)=some (bJ ρ l').toArray
 |[],l,l',h,hb,_=>by
  simp only[im,Option.some.injEq]at h
  subst h
  exact⟨hb,rfl⟩
 |(i,v)::r,l,l',h,hb,hv=>by
  have hrel:v.rel ρ (v.den ρ):=hv (i,v) (by simp)
  simp only[im]at h
  split at h
  ·rename_i off size cs hp hc
   obtain⟨hc1,hc2⟩:=fm hc hrel
   split at h
   ·rename_i hsz hle
    have hsz':=Nat.eq_of_beq_eq_true hsz
    have hle':=Nat.le_of_ble_eq_true hle
    have hb':lj ρ.length (setL l off cs):=fun c hc'=>by
     rcases kj _ _ _ _ hc' with h|h
     ·exact hb c h
     ·exact hc2 c h
    obtain⟨h3,h4⟩:=j0 h hb' (fun p hp=>hv p (by simp[hp]))
    refine⟨h3,?_⟩
    have hu:(v.den ρ).cells.size=cs.length:=by
     have:=congrArg List.length hc1
     rw[bO]at this
     simpa using this
    simp only[kz,Instr.fill,hp,hu,hsz',bO,List.size_toArray]
    rw[if_neg (by simp;omega)]
    rw[<-h4]
    congr 1
    rw[<-Array.foldl_toList,Array.toList_zipIdx,hc1]
    have:=j4 off (bJ ρ cs) 0 (bJ ρ l) (by rw[bO,bO];omega)
    simpa[di,kJ]using this
   ·cases h
  ·cases h
theorem f0{t:TypeId}{z:List C}(h:og P t=some z)(ρ:List Nat):∃zv,(∀w,(zeroValue t).run P w=.ok zv w)/\zv.cells.toList=bJ ρ z/\lj ρ.length z:=by
 unfold og at h
 split at h
 ·rename_i i hi
  split at h
  ·rename_i zv hz
   obtain⟨h1,h2⟩:=fm h (pH ρ zv)
   exact⟨zv,fun w=>by simp[zeroValue,aW hi,hz],h1,h2⟩
  ·cases h
 ·cases h
theorem wW{fs:List Field}(h:vS P fs=true):∀f∈fs,aP P f.type≠0:=by
 induction fs with
 |nil=>simp
 |cons f r ih =>
  simp only[vS]at h
  split at h
  ·rename_i hb
   rw[Nat.blt_eq]at hb
   intro g hg
   rcases List.mem_cons.1 hg with rfl|hg
   ·omega
   ·exact ih h g hg
  ·cases h
theorem ig(w:World):∀{fs:List Field},(∀f∈fs,aP P f.type≠0)->
 (fs.mapM (fun f=>do pure (f.offset,<-sizeOf f.type)):Sem (List (Nat×Nat))).run P w=.ok (fs.map fun f=>(f.offset,aP P f.type)) w
 |[],_=>by simp
 |f::r,h=>by
  have h1:=h f (by simp)
  have h2:=ig w (fs:=r) (fun g hg=>h g (by simp[hg]))
  simp only[bind_pure_comp]at h2 ⊢
  simp[List.mapM_cons,cp h1,h2]
theorem mW{t:TypeId}{parts:List (Nat×V)}{l:List C}{ρ:List Nat}(h:rZ P t parts=some l)
 (hv:∀p∈parts,p.2.rel ρ (p.2.den ρ)):
 lj ρ.length l/\∀w,(Instr.build t (kz ρ parts).toArray).run P w=.ok (.agg (bJ ρ l).toArray) w:=by
 unfold rZ at h
 split at h
 ·rename_i z pl ha hz hpl
  obtain⟨zv,hz1,hz2,hz3⟩:=f0 hz ρ
  obtain⟨h1,h2⟩:=j0 h hz3 hv
  refine⟨h1,fun w=>?_⟩
  have hzc:zv.cells=(bJ ρ z).toArray:=by rw[<-hz2]
  unfold vf at hpl
  split at hpl
  ·rename_i fs hu
   split at hpl
   ·rename_i hall
    simp only[Option.some.injEq]at hpl
    subst hpl
    have hm:=ig (P:=P) w (wW hall)
    have hpl':(fun i=>(fs.map fun f=>(f.offset,aP P f.type))[i]?)=qz P fs.toList:=by
     funext i
     simp only[qz,Array.getElem?_map,Array.getElem?_toList]
     cases fs[i]?<;>rfl
    simp only[bind_pure_comp]at hm
    simp only[Instr.build,Sem.run_bind,hz1,Result.andThen_ok,ai hu,Array.mapM_eq_mapM_toList,Sem.run_map,bind_pure_comp,hm]
    have e:((List.map (fun f=>(f.offset,aP P f.type)) fs.toList).toArray)=fs.map fun f=>(f.offset,aP P f.type):=by
     apply Array.ext';simp
    rw[e,hpl',hzc,h2]
    rfl
   ·cases hpl
  ·rename_i e hu
   split at hpl
   ·rename_i hb
    rw[Nat.blt_eq]at hb
    simp only[Option.some.injEq]at hpl
    subst hpl
    have hz':aP P e≠0:=by omega
    simp only[Instr.build,Sem.run_bind,hz1,Result.andThen_ok,ai hu,cp hz']
    rw[hzc]
    have e1:(fun i=>some (i*aP P e,aP P e))=lz P e:=rfl
    rw[e1,h2]
    rfl
   ·cases hpl
  ·rename_i e hu
   simp[kY,hu]at ha
  ·cases hpl
 ·cases h
end Go.Vc
namespace Go.Vc
open Go
variable {P:Program}
theorem dF{E:En}{H:Hp}{s:Sem Value}{t:TypeId}{k:V->Hp->Prop}(h:Db P E H s t k):
 ∃v y,k v H/\v.rel (ah E H) y/\∀w,s.run P w=.ok y w:=by
 obtain⟨v,h1,h2,h3⟩:=iJ h
 exact⟨v,_,h3,h1 _,h2.run⟩
theorem cq{s:Sem Value}{y:Value}{w w':World}(h:s.run P w=.ok y w'):(do pure (Next.value (<-s)):Sem Next).run P w=.ok (.value y) w':=by
 simp[h]
theorem Cg(l:List (Nat×V)):oS l=l.map (·.2):=by
 induction l with
 |nil=>rfl
 |cons x r ih=>simp[oS,ih]
theorem lK{E:En}{ρ:List Nat}{ov:Ov}{a:Act}(h:ct E ρ ov a)(parts:List (Nat×Operand))(hj:cP (oS (rq E ov parts))=true):
 parts.map (fun x=>(x.1,a.eval x.2))=kz ρ (rq E ov parts)/\∀p∈rq E ov parts,p.2.rel ρ (p.2.den ρ):=by
 rw[Cg,BH,List.map_map]at hj
 rw[CZ,BH,List.map_map]
 have hok:∀x∈parts,cP [ev E ov x.2]=true:=fun x hx=>tH hj _ (List.mem_map.2 ⟨x,hx,rfl⟩)
 refine⟨List.map_congr_left fun x hx=>?_,fun p hp=>?_⟩
 ·simp only[Function.comp]
  rw[bV h rfl (hok x hx)]
 ·obtain⟨x,hx,rfl⟩:=List.mem_map.1 hp
  have h1:=bR h x.2
  rw[bV h rfl (hok x hx)]at h1
  exact h1
theorem rl{E:En}{ρ:List Nat}{ov:Ov}{a:Act}(h:ct E ρ ov a)(x:Option Operand)(hj:vR E ov x=true):x.map a.eval=Al ρ E ov x:=by
 cases x with
 |none=>rfl
 |some x=>simp only[Option.map,Al];rw[bV h rfl hj]
theorem eI{E:En}{ρ:List Nat}{ov:Ov}{a:Act}(h:ct E ρ ov a)(l:Array Operand)(hj:cP (lP E ov l.toList)=true):
 l.map a.eval=(dY ρ (lP E ov l.toList)).toArray:=by
 rw[<-Ct h l.toList hj]
 apply Array.ext'
 simp
theorem uS{t:TypeId}{x:V}{n:Int}{ρ:List Nat}{y:Value}(h:Ed P t x=some n)(hx:x.rel ρ y)(tt:TypeId)(w:World):
 (Builtin.len_ #[t] tt #[y]).run P w=.ok (iv n) w:=by
 unfold Ed at h
 split at h
 ·rename_i hu
  obtain⟨_,rfl⟩:=hx
  simp only[Option.some.injEq]at h;subst h
  simp[Builtin.len_,ai hu,A.den,C.den,goInt]
 ·rename_i hu
  obtain⟨_,rfl⟩:=hx
  simp only[Option.some.injEq]at h;subst h
  simp[Builtin.len_,ai hu,A.den,C.den,goInt]
 ·rename_i hu
  obtain⟨_,rfl⟩:=hx
  simp only[Option.some.injEq]at h;subst h
  simp[Builtin.len_,ai hu,A.den,C.den,goInt]
 ·rename_i hu
  simp only[Option.some.injEq]at h;subst h
  simp[Builtin.len_,ai hu,goInt]
 ·cases h
theorem qQ{s:ByteArray}{n:Int}(h0:0<=n)(h1:n<(s.size:Int)):∃b,s[n.toNat]?=some b/\((b.toNat:Nat):Int)=cW s n:=by
 have hn:n.toNat<s.size:=by omega
 have hn':n.toNat<s.data.size:=hn
 refine⟨s[n.toNat],by simp[getElem?_pos,hn],?_⟩
 unfold cW
 rw[show s.data.getD n.toNat 0=s[n.toNat] from by
  unfold Array.getD
  rw[dif_pos hn'];rfl]
theorem BL{E:En}{ov:Ov}{H:Hp}{o:Oper}{k:V->Hp->Prop}{a:Act}(hT:ct E (ah E H) ov a)(hl:∀t p,o.op≠.load t p)(h:Ej P E ov H o k):
 ∃v y,k v H/\v.rel (ah E H) y/\∀w,(execOp a.eval o).run P w=.ok (.value y) w:=by
 obtain⟨dst,op,type,pos,after,guard⟩:=o
 cases op<;>simp only[Ej]at h
 case move x=>exact⟨_,_,h,bR hT x,fun w=>rfl⟩
 case assign x=>exact⟨_,_,h,bR hT x,fun w=>rfl⟩
 case pick c x y =>
  have hc:=bR hT c
  split at h
  ·rename_i cc hcc
   rw[hcc]at hc
   rcases lW h (ah E H) with ⟨h1,h2⟩|⟨h1,h2⟩
   ·exact⟨_,_,h2,bR hT x,fun w=>by simp[execOp,hc.2,A.den,h1,asBool]⟩
   ·exact⟨_,_,h2,bR hT y,fun w=>by simp[execOp,hc.2,A.den,h1,asBool]⟩
  ·exact h.elim
 case load t p=>exact absurd rfl (hl t p)
 case nilCheck x =>
  have hx:=bR hT x
  split at h
  ·rename_i i off he
   rw[he]at hx
   exact⟨_,_,h,hx,fun w=>by simp[execOp,hx.2,A.den,C.den]⟩
  ·rename_i ad he
   rw[he]at hx
   exact⟨_,_,h,hx,fun w=>by simp[execOp,hx.2,A.den,C.den]⟩
  ·rename_i aa _ he
   rw[he]at hx
   obtain⟨ad,rfl,h⟩:=h
   exact⟨_,_,h,hx,fun w=>by simp[execOp,hx.2,A.den,C.den]⟩
  ·rename_i f first caps he
   rw[he]at hx
   exact⟨_,_,h,hx,fun w=>by simp[execOp,hx.2,A.den,C.den]⟩
  ·exact h.elim
 case binOp op t x y yt =>
  obtain⟨c,h1,h2,h3⟩:=uJ h (bR hT x) (bR hT y) (fun m hm=>by
   obtain⟨k,rfl⟩:=eH hm
   exact⟨k,rfl⟩)
  exact⟨_,_,h1,⟨h2 _,rfl⟩,fun w=>by
   simp only[execOp]
   exact cq (h3 w)⟩
 case unOp u t x =>
  have hx:=bR hT x
  cases u<;>dsimp only at h
  case not =>
   split at h
   ·rename_i b he
    rw[he]at hx
    exact⟨_,_,h,⟨trivial,rfl⟩,fun w=>by simp[execOp,hx.2,A.den,C.den,Op.unary]⟩
   ·rename_i b he
    rw[he]at hx
    exact⟨_,_,h,⟨trivial,rfl⟩,fun w=>by simp[execOp,hx.2,A.den,C.den,Op.unary]⟩
   ·rename_i p d he
    rw[he]at hx
    exact⟨_,_,h,⟨trivial,rfl⟩,fun w=>by simp[execOp,hx.2,A.den,C.den,Op.unary]⟩
   ·exact h.elim
  case neg =>
   split at h
   ·rename_i kk n he
    rw[he]at hx
    exact⟨_,_,fW h,⟨trivial,rfl⟩,fun w=>by simp[execOp,hx.2,A.den,C.den,Op.unary,Op.intArith]⟩
   ·exact h.elim
  all_goals
   split at h
   ·rename_i hj
    obtain⟨v,y,h1,h2,h3⟩:=dF h
    refine⟨v,y,h1,h2,fun w=>?_⟩
    simp only[execOp,bV hT rfl hj]
    exact cq (h3 w)
   ·exact h.elim
 case convert src dst x =>
  split at h
  ·rename_i g hg
   obtain⟨c,h1,h2,h3⟩:=tr hg h (bR hT x)
   exact⟨_,_,h1,⟨h2 _,rfl⟩,fun w=>by simp only[execOp];exact cq (h3 w)⟩
  ·exact h.elim
 case fieldAddr t x f =>
  split at h
  ·rename_i c hc
   obtain⟨h1,h2⟩:=oJ hc (bR hT x)
   exact⟨_,_,h,⟨h1,rfl⟩,fun w=>by simp only[execOp];exact cq (h2 w)⟩
  ·exact h.elim
 case field t x f =>
  have hx:=bR hT x
  split at h
  ·rename_i l fs he hfs
   rw[he]at hx
   unfold m8 at hfs
   split at hfs
   ·rename_i fa hu
    simp only[Option.some.injEq]at hfs
    subst hfs
    split at h
    ·rename_i fd hfd
     split at h
     ·rename_i xx hxx
      have h1:=nY hxx hx.1 (ah E H)
      refine⟨_,_,h,⟨(h1 default).1,rfl⟩,fun w=>?_⟩
      have hfd':fa[f]?=some fd:=by simpa using hfd
      simp only[execOp]
      refine cq ?_
      simp only[Instr.field,Sem.run_bind,ai hu,Result.andThen_ok,hfd',hx.2,A.den,asAgg,Sem.run_pure,(h1 w).2]
     ·exact h.elim
    ·exact h.elim
   ·cases hfs
  ·rename_i l fs he hfs
   rw[he]at hx
   obtain⟨v,y,h1,h2,h3⟩:=dF h
   refine⟨v,y,h1,h2,fun w=>?_⟩
   simp only[execOp,hx.2,A.den]
   exact cq (h3 w)
  ·exact h.elim
 case indexAddr t x ix =>
  obtain⟨c,h1,h2,h3⟩:=qk h (bR hT x) (bR hT ix) rfl
  exact⟨_,_,h1,⟨h2,rfl⟩,fun w=>by simp only[execOp];exact cq (h3 w)⟩
 case index t x ix =>
  have hx:=bR hT x
  have hi:=bR hT ix
  split at h
  ·rename_i s kk n hu he1 he2
   rw[he1]at hx
   rw[he2]at hi
   obtain⟨h0,h1,h⟩:=h
   obtain⟨b,hb1,hb2⟩:=qQ h0 h1
   refine⟨_,_,h,⟨trivial,rfl⟩,fun w=>?_⟩
   simp only[execOp]
   refine cq ?_
   simp[Instr.index,asIntOf,hx.2,hi.2,A.den,C.den,ai hu,h0,hb1,hb2]
  ·rename_i len e l kk n hu he1 he2
   split at h
   ·rename_i m hm
    split at h
    ·rename_i hlt
     rw[Nat.blt_eq]at hlt
     split at h
     ·rename_i xx hxx
      rw[he1]at hx
      obtain⟨k',rfl⟩:=eH hm
      have h1:=nY hxx hx.1 (ah E H)
      refine⟨_,_,h,⟨(h1 default).1,rfl⟩,fun w=>?_⟩
      simp only[execOp]
      refine cq ?_
      have hsz:(sizeOf e).run P w=.ok (aP P e) w:=by
       unfold mp at hxx
       split at hxx
       ·cases hxx
       ·rename_i d hd;exact gT hd w
      have e2:a.eval (.const (.int k' (m:Int)))=.int k' (m:Int):=rfl
      rw[e2,hx.2]
      simp only[Instr.index,asIntOf,A.den,Sem.run_bind,Sem.run_pure,Result.andThen_ok,ai hu]
      rw[if_pos (by omega)]
      simp only[Sem.run_bind,hsz,Result.andThen_ok,Int.toNat_natCast,(h1 w).2]
      cases xx<;>rfl
     ·exact h.elim
    ·exact h.elim
   ·obtain⟨v,y,h1,h2,h3⟩:=dF h
    refine⟨v,y,h1,h2,fun w=>?_⟩
    have e1:=bV hT (x:=x) rfl (by rw[he1];rfl)
    have e2:=bV hT (x:=ix) rfl (by rw[he2];rfl)
    simp only[execOp,e1,e2]
    exact cq (h3 w)
  ·rename_i x0 x1 _ _
   split at h
   ·rename_i hj
    rw[cU]at hj
    obtain⟨v,y,h1,h2,h3⟩:=dF h
    refine⟨v,y,h1,h2,fun w=>?_⟩
    have e1:=bV hT (x:=x) rfl hj.1
    have e2:=bV hT (x:=ix) rfl hj.2
    simp only[execOp,e1,e2]
    exact cq (h3 w)
   ·exact h.elim
 case extract x i =>
  have hx:=bR hT x
  split at h
  ·rename_i l he
   rw[he]at hx
   split at h
   ·rename_i xx hxx
    refine⟨_,_,h,⟨hx.1 xx (List.mem_of_getElem? hxx),rfl⟩,fun w=>?_⟩
    simp only[execOp]
    refine cq ?_
    have:(fg (ah E H) l).toArray[i]?=some (xx.den (ah E H)):=by rw[gr];simp[hxx]
    simp only[Instr.extract,hx.2,this,Sem.run_pure]
   ·exact h.elim
  ·exact h.elim
 case makeFunc fn first caps =>
  split at h
  ·rename_i h1 h2
   refine⟨_,_,h,⟨trivial,rfl⟩,fun w=>?_⟩
   simp only[execOp,eI hT first h1,eI hT caps h2]
   rfl
  ·exact h.elim
 case build t parts =>
  split at h
  ·exact h.elim
  ·rename_i hj
   obtain⟨h1,h2⟩:=lK hT parts.toList hj
   have e1:(parts.map fun x=>(x.1,a.eval x.2))=(kz (ah E H) (rq E ov parts.toList)).toArray:=by
    rw[<-h1];apply Array.ext';simp
   split at h
   ·rename_i l hl
    obtain⟨h3,h4⟩:=mW hl h2
    refine⟨_,_,h,⟨h3,rfl⟩,fun w=>?_⟩
    simp only[execOp,e1]
    exact cq (h4 w)
   ·obtain⟨v,y,h3,h4,h5⟩:=dF h
    refine⟨v,y,h3,h4,fun w=>?_⟩
    simp only[execOp,e1]
    exact cq (h5 w)
 case slice t x lo hi mx =>
  split at h
  ·rename_i h1 h2 h3 h4
   obtain⟨v,y,h5,h6,h7⟩:=dF h
   refine⟨v,y,h5,h6,fun w=>?_⟩
   simp only[execOp,bV hT rfl h1,rl hT lo h2,rl hT hi h3,rl hT mx h4]
   exact cq (h7 w)
  ·exact h.elim
 case call c =>
  obtain⟨callee,args,argTypes⟩:=c
  cases callee<;>(try dsimp only at h)
  case builtin b =>
   cases b<;>(try dsimp only at h)<;>(try exact h.elim)
   case len =>
    split at h
    ·rename_i x t hx ht
     split at h
     ·rename_i n hn
      refine⟨_,_,h,⟨trivial,rfl⟩,fun w=>?_⟩
      have e1:args=#[x]:=by apply Array.ext';simpa using hx
      have e2:argTypes=#[t]:=by apply Array.ext';simpa using ht
      have:=uS hn (bR hT x) type w
      simp only[execOp,resolve,invoke,builtin,e1,e2]
      simp[this,A.den,C.den]
     ·exact h.elim
    ·exact h.elim
   case min =>
    split at h
    ·rename_i hj
     obtain⟨v,y,h1,h2,h3⟩:=dF h
     refine⟨v,y,h1,h2,fun w=>?_⟩
     simp only[execOp,resolve,invoke,builtin,eI hT args hj]
     simp[h3 w]
    ·exact h.elim
   case max =>
    split at h
    ·rename_i hj
     obtain⟨v,y,h1,h2,h3⟩:=dF h
     refine⟨v,y,h1,h2,fun w=>?_⟩
     simp only[execOp,resolve,invoke,builtin,eI hT args hj]
     simp[h3 w]
    ·exact h.elim
  all_goals exact h.elim
 all_goals exact h.elim
theorem py{E:En}{ov:Ov}{H:Hp}{o:Oper}{k:V->Hp->Prop}{a:Act}{wa:World}(i:Nat)(hT:ct E (ah E H) ov a)(hH:bD E H wa)(h:Ej P E ov H o k):
 ∃v H' y,k v H'/\bD E H' wa/\H'.rho=H.rho/\v.rel (ah E H) y/\dC (jH E ov H' i o v) wa/\
  ∀w',dC (jH E ov H' i o v) w'->(execOp a.eval o).run P w'=.ok (.value y) w':=by
 by_cases hl:∃t p,o.op=.load t p
 ·obtain⟨dst,op,type,pos,after,guard⟩:=o
  obtain⟨t,p,hop⟩:=hl
  dsimp only at hop
  subst hop
  simp only[Ej]at h
  obtain⟨x,H',ad,h1,h2,h3,h4,h5,h6,h7,h8⟩:=kW h hH (bR hT p)
  have eρ:ah E H'=ah E H:=by simp[ah,h3]
  have hob:∀w',dC (jH E ov H' i ⟨dst,.load t p,type,pos,after,guard⟩ (.a x)) w'↔ao w' ad (qB (ah E H') x):=by
   intro w'
   simp only[jH]
   rcases h8 with ⟨id,off,hp,rfl⟩|hp
   ·simp[hp,dC]
   ·simp[hp,dC]
  refine⟨.a x,H',x.den (ah E H),h1,h2,h3,⟨h4,rfl⟩,(hob wa).2 h7,fun w' hw=>?_⟩
  have h9:=od h5 ((hob w').1 hw)
  simp only[execOp,h6,Instr.loadAt,Instr.sureAddr]
  rw[eρ]at h9
  simp[h9]
 ·have hl':∀t p,o.op≠.load t p:=fun t p he=>hl ⟨t,p,he⟩
  obtain⟨v,y,h1,h2,h3⟩:=BL hT hl' h
  have hob:jH E ov H i o v=[]:=by
   unfold jH
   split
   ·rename_i t p he;exact absurd he (hl' t p)
   ·rfl
  exact⟨v,H,y,h1,hH,rfl,h2,by rw[hob];trivial,fun w' _=>h3 w'⟩
end Go.Vc
namespace Go.Vc
open Go
variable {P:Program}
structure wV (P:Program):Prop where
 num:∀(f:Nat) (fn:Func),P.funcs[f]?=some fn->fn.body.isSome=true->fn.name≠ "runtime.NumGoroutine"
 mixed:P.follows .mixedOrders=true
def Nx(E:En)(H:Hp)(o:Oper)(k:V->Hp->Prop)(a:Act)(wa:World)(a':Act)(w':World):Prop :=
 ∃v H' y,k v H'/\bD E H' w'/\(∃ext,H'.rho=H.rho++ext)/\a'=a.put o.dst y/\v.rel (ah E H') y/\(mJ E o.op=true->KpL [] wa w')
theorem kq{E:En}{H H':Hp}{ext:List Nat}(h:H'.rho=H.rho++ext):ah E H'=ah E H++ext:=by
 simp[ah,h]
theorem bu{E:En}{H H':Hp}(h:H'.rho=H.rho):ah E H'=ah E H:=by
 simp[ah,h]
theorem dO{o:Oper}{a:Act}{wa w':World}{next:Act->World->Prop}{Q:Exit->Act->World->Prop}{y:Value}
 (h:(execOp a.eval o).run P wa=.ok (.value y) w')(hn:next (a.put o.dst y) w'):o.wp P a wa next Q:=by
 unfold Oper.wp
 rw[h]
 exact hn
theorem ng{o:Oper}{a:Act}{wa w':World}{next:Act->World->Prop}{Q:Exit->Act->World->Prop}
 (h:(execOp a.eval o).run P wa=.ok .skip w')(hn:next (a.put o.dst undef) w'):o.wp P a wa next Q:=by
 unfold Oper.wp
 rw[h]
 exact hn
theorem gP{E:En}{H:Hp}{vs:List V}{s:Sem Value}{t:TypeId}{k:V->Hp->Prop}{wa:World}(h:j8 P E H vs s t k)(hs:bD E H wa):
 cP vs=true/\∃y wb v H',s.run P wa=.ok y wb/\k v H'/\bD E H' wb/\H'.rho=H.rho/\v.rel (ah E H) y:=by
 unfold j8 at h
 split at h
 ·rename_i hj;exact⟨hj,xy h hs⟩
 ·exact h.elim
theorem ow{E:En}{H:Hp}{vs:List V}{s:Sem Value}{x:Ex}{k:V->Hp->Prop}{wa:World}(h:sQ P E H vs s x k)(hs:bD E H wa):
 cP vs=true/\∃y wb v H',s.run P wa=.ok y wb/\k v H'/\bD E H' wb/\H'.rho=H.rho/\v.rel (ah E H) y:=by
 unfold sQ at h
 split at h
 ·rename_i hj;exact⟨hj,oy h hs⟩
 ·exact h.elim
theorem kl(hP:wV P){f:Nat}{fn:Func}(hf:P.funcs[f]?=some fn){c:Code}(hb:fn.body=some c)(args:Array Value)(w:World):
 (callFunc f args).run P w=.ok (.enter f args) w:=by
 have h1:=hP.num f fn hf (by simp[hb])
 simp[callFunc,hf,h1,hb]
theorem rr(hP:wV P){E:En}{H:Hp}{f:Nat}{pre post:List Value}{vs:List V}{t:TypeId}{k:V->Hp->Prop}{wa:World}(h:AY P E H f pre vs post t k)
 (hs:bD E H wa){o:Oper}{a:Act}{Q:Exit->Act->World->Prop}
 (hx:cP vs=true->∀w,(execOp a.eval o).run P w=(callFunc f (pre++dY (ah E H) vs++post).toArray).run P w)
 (hk:mJ E o.op=true->jB f E.an.muts=false):
 o.wp P a wa (Nx E H o k a wa) Q:=by
 unfold AY at h
 split at h
 ·rename_i fn hf
  split at h
  ·rename_i c hb hj
   have hrun:=fun w=>(hx hj w).trans (kl hP hf hb _ w)
   split at h
   ·rename_i hmut
    obtain⟨H',h1,h2,rfl,h4,h5⟩:=bA h hs
    have er:ah E H'=ah E H:=bu h4
    unfold Oper.wp
    rw[hrun]
    show Calls _ _ _ _ _
    rw[<-er]
    refine Calls.mono h1.calls fun e wb hq=>?_
    obtain⟨v,hv,rfl,hkp,hkk⟩:=iJ hq
    exact⟨v,_,_,hkk,dx (hp':=H'.hp) h2 hkp (List.Sublist.refl _) (yF _ _ _),⟨[],by simp[fc,h4]⟩,rfl,hv _,fun _=>hkp⟩
   ·rename_i hmut
    obtain⟨H',h1,h2,rfl,h4,h5⟩:=bA h hs
    have er:ah E H'=ah E H:=bu h4
    unfold Oper.wp
    rw[hrun]
    show Calls _ _ _ _ _
    rw[<-er]
    refine Calls.mono h1.calls fun e wb hq=>?_
    obtain⟨v,hv,rfl,F,hkp,hspk⟩:=iJ hq
    obtain⟨hsp,hkk⟩:=dA hspk
    refine⟨v,_,_,hkk,dx h2 hkp (eY _ _) hsp,⟨[],by simp[fc,h4]⟩,rfl,hv _,fun hn=>?_⟩
    have:=hk hn
    simp[hmut]at this
  ·exact h.elim
 ·exact h.elim
theorem r8(hP:wV P){E:En}{H:Hp}{f:Nat}{pre post:List Value}{vs:List V}{t:TypeId}{k:V->Hp->Prop}{wa:World}(h:Aa P E H f pre vs post t k)
 (hs:bD E H wa){o:Oper}{a:Act}{Q:Exit->Act->World->Prop}
 (hx:cP vs=true->∀w,(execOp a.eval o).run P w=(callFunc f (pre++dY (ah E H) vs++post).toArray).run P w)
 (hk:mJ E o.op=false):
 o.wp P a wa (Nx E H o k a wa) Q:=by
 unfold Aa at h
 split at h
 ·rename_i hj
  obtain⟨⟨fn,c,hf,hb⟩,h⟩:=h
  have hrun:=fun w=>(hx hj w).trans (kl hP hf hb _ w)
  obtain⟨H',h1,h2,rfl,h4,h5⟩:=bA h hs
  have er:ah E H'=ah E H:=bu h4
  unfold Oper.wp
  rw[hrun]
  show Calls _ _ _ _ _
  rw[<-er]
  refine Calls.mono h1.calls fun e wb hq=>?_
  obtain⟨v,hv,rfl,F,hkp,hspk⟩:=iJ hq
  obtain⟨hsp,hkk⟩:=dA hspk
  refine⟨v,_,_,hkk,dx h2 hkp (eY _ _) hsp,⟨[],by simp[fc,h4]⟩,rfl,hv _,fun hn=>?_⟩
  rw[hk]at hn
  cases hn
 ·exact h.elim
theorem pI(hP:wV P){E:En}{ov:Ov}{H:Hp}{o:Oper}{k:V->Hp->Prop}{a:Act}{wa:World}{Q:Exit->Act->World->Prop}
 (hT:ct E (ah E H) ov a)(hH:bD E H wa)(h:E7 P E ov H o k):o.wp P a wa (Nx E H o k a wa) Q:=by
 obtain⟨dst,op,type,pos,after,guard⟩:=o
 have plain:∀{vs:List V} {s:Sem Value},j8 P E H vs s type k->(cP vs=true->∀w,(execOp a.eval ⟨dst,op,type,pos,after,guard⟩).run P w=(do pure (Next.value (<-s)):Sem Next).run P w)->
  mJ E op=false->Oper.wp P ⟨dst,op,type,pos,after,guard⟩ a wa (Nx E H ⟨dst,op,type,pos,after,guard⟩ k a wa) Q:=by
  intro vs s h hx hn
  obtain⟨hj,y,wb,v,H',h1,h2,h3,h4,h5⟩:=gP h hH
  refine dO (y:=y) (w':=wb) ((hx hj wa).trans (cq h1)) ⟨v,H',y,h2,h3,⟨[],by simp[h4]⟩,rfl,by rw[bu h4];exact h5,fun hc=>?_⟩
  rw[hn]at hc;cases hc
 have plainC:∀{vs:List V} {s:Sem Value} {x:Ex},sQ P E H vs s x k->(cP vs=true->∀w,(execOp a.eval ⟨dst,op,type,pos,after,guard⟩).run P w=(do pure (Next.value (<-s)):Sem Next).run P w)->
  mJ E op=false->Oper.wp P ⟨dst,op,type,pos,after,guard⟩ a wa (Nx E H ⟨dst,op,type,pos,after,guard⟩ k a wa) Q:=by
  intro vs s x h hx hn
  obtain⟨hj,y,wb,v,H',h1,h2,h3,h4,h5⟩:=ow h hH
  refine dO (y:=y) (w':=wb) ((hx hj wa).trans (cq h1)) ⟨v,H',y,h2,h3,⟨[],by simp[h4]⟩,rfl,by rw[bu h4];exact h5,fun hc=>?_⟩
  rw[hn]at hc;cases hc
 cases op<;>simp only[E7]at h<;>(try exact h.elim)
 case alloc T =>
  split at h
  ·rename_i z hz
   split at h
   ·obtain⟨zv,hz1,hz2,hz3⟩:=f0 hz (ah E H)
    obtain⟨H',h1,h2,h3⟩:=j3 h hH hz3
    have hzc:zv.cells=(bJ (ah E H) z).toArray:=by rw[<-hz2]
    refine dO (y:=.pointer (some ⟨wa.heap.size,0,none⟩)) (w':=wa.alloc (.cells (bJ (ah E H) z).toArray T)) ?_ ⟨_,H',_,h1,h2,⟨_,h3⟩,rfl,?_,fun _=>(KpL.refl _ _).alloc _⟩
    ·simp only[execOp]
     refine cq ?_
     simp only[Instr.alloc,Sem.run_bind,hz1,Result.andThen_ok,newVar,newRow,run_newObj,Sem.run_pure,hzc]
     rfl
    ·rw[kq h3]
     refine⟨by show _<_;simp,?_⟩
     simp[A.den,C.den]
   ·obtain⟨y,wb,v,H',h1,h2,h3,h4,h5⟩:=oy h hH
    obtain⟨zv,hz1,hz2,hz3⟩:=f0 hz (ah E H)
    have h1':=h1
    simp only[Instr.alloc,Sem.run_bind,hz1,Result.andThen_ok,newVar,newRow,run_newObj,Sem.run_pure,Result.ok.injEq]at h1'
    refine dO (y:=y) (w':=wb) ?_ ⟨v,H',y,h2,h3,⟨[],by simp[h4]⟩,rfl,by rw[bu h4];exact h5,fun _=>?_⟩
    ·simp only[execOp]
     exact cq h1
    ·rw[<-h1'.2];exact(KpL.refl _ _).alloc _
  ·exact h.elim
 case box T x =>
  split at h
  ·rename_i cs hcs
   split at h
   ·obtain⟨h1,h2⟩:=fm hcs (bR hT x)
    obtain⟨H',h3,h4,h5⟩:=j3 h hH h2
    have hzc:(a.eval x).cells=(bJ (ah E H) cs).toArray:=by rw[<-h1]
    refine dO (y:=.pointer (some ⟨wa.heap.size,0,none⟩)) (w':=wa.alloc (.cells (bJ (ah E H) cs).toArray T)) ?_ ⟨_,H',_,h3,h4,⟨_,h5⟩,rfl,?_,fun _=>(KpL.refl _ _).alloc _⟩
    ·simp only[execOp]
     refine cq ?_
     simp only[Instr.box,newVar,newRow,Sem.run_bind,run_newObj,Result.andThen_ok,Sem.run_pure,hzc]
     rfl
    ·rw[kq h5]
     refine⟨by show _<_;simp,?_⟩
     simp[A.den,C.den]
   ·obtain⟨hj,y,wb,v,H',h1,h2,h3,h4,h5⟩:=ow h hH
    have h1':=h1
    simp only[Instr.box,newVar,newRow,Sem.run_bind,run_newObj,Result.andThen_ok,Sem.run_pure,Result.ok.injEq]at h1'
    refine dO (y:=y) (w':=wb) ?_ ⟨v,H',y,h2,h3,⟨[],by simp[h4]⟩,rfl,by rw[bu h4];exact h5,fun _=>?_⟩
    ·simp only[execOp,bV hT rfl hj]
     exact cq h1
    ·rw[<-h1'.2];exact(KpL.refl _ _).alloc _
  ·exact h.elim
 case buildSlice t len parts =>
  have hev:∀{s:Sem Value},j8 P E H (oS (rq E ov parts.toList)) (Instr.buildSlice t len (kz (ah E H) (rq E ov parts.toList)).toArray) type k->
   ∀e,P.underlying t=some (.slice e)->Oper.wp P ⟨dst,.buildSlice t len parts,type,pos,after,guard⟩ a wa (Nx E H ⟨dst,.buildSlice t len parts,type,pos,after,guard⟩ k a wa) Q:=by
   intro s h e hu
   obtain⟨hj,y,wb,v,H',h1,h2,h3,h4,h5⟩:=gP h hH
   obtain⟨h6,h7⟩:=lK hT parts.toList hj
   have e1:(parts.map fun x=>(x.1,a.eval x.2))=(kz (ah E H) (rq E ov parts.toList)).toArray:=by
    rw[<-h6];apply Array.ext';simp
   refine dO (y:=y) (w':=wb) ?_ ⟨v,H',y,h2,h3,⟨[],by simp[h4]⟩,rfl,by rw[bu h4];exact h5,fun _=>?_⟩
   ·simp only[execOp,e1]
    exact cq h1
   ·simp only[Instr.buildSlice,Sem.run_bind,ai hu,Result.andThen_ok]at h1
    have hsz:(∃s,(sizeOf e).run P wa=.ok s wa):=by
     cases hs:P.info? e with
     |none=>simp[sizeOf,typeInfo,hs]at h1
     |some i=>exact⟨i.size,by simp[sizeOf,aW hs]⟩
    obtain⟨s,hs⟩:=hsz
    rw[hs]at h1
    simp only[Result.andThen_ok]at h1
    by_cases hbig:len*s>2 ^ 24
    ·rw[if_pos hbig]at h1;simp at h1
    ·rw[if_neg hbig]at h1
     (try simp only[Sem.run_bind,Sem.run_pure,Result.andThen_ok]at h1)
     by_cases h0:len*s=0
     ·rw[if_pos h0]at h1
      simp only[pure_bind]at h1
      split at h1
      ·simp only[Sem.run_bind,newRow,run_newObj,Sem.run_pure,Result.andThen_ok,Result.ok.injEq]at h1
       rw[<-h1.2];exact(KpL.refl _ _).alloc _
      ·simp at h1
     ·rw[if_neg h0]at h1
      cases hi:P.info? e with
      |none=>simp[zeroValue,typeInfo,hi]at h1
      |some i =>
       cases hzz:i.zero with
       |none=>simp[zeroValue,aW hi,hzz]at h1
       |some zv =>
        simp only[zeroValue,Sem.run_bind,aW hi,Result.andThen_ok,hzz,Sem.run_pure]at h1
        split at h1
        ·simp only[Sem.run_bind,newRow,run_newObj,Sem.run_pure,Result.andThen_ok,Result.ok.injEq]at h1
         rw[<-h1.2];exact(KpL.refl _ _).alloc _
        ·simp at h1
  split at h
  ·rename_i e hu
   split at h
   ·rename_i z hz
    split at h
    ·rename_i l hl hle hzl hpos
     have hle':=Nat.le_of_ble_eq_true hle
     have hzl':=Nat.eq_of_beq_eq_true hzl
     rw[Nat.blt_eq]at hpos
     have hsz:aP P e≠0:=by rintro h0;rw[h0]at hpos;simp at hpos
     obtain⟨zv,hz1,hz2,hz3⟩:=f0 hz (ah E H)
     have hj:cP (oS (rq E ov parts.toList))=true:=by
      have:∀{ps:List (Nat×V)} {l l':List C},im (lz P e) l ps=some l'->cP (oS ps)=true:=by
       intro ps
       induction ps with
       |nil=>intros;rfl
       |cons p r ih =>
        intro l l' hf
        obtain⟨i,v⟩:=p
        simp only[im]at hf
        split at hf
        ·rename_i off size cs hp hc
         split at hf
         ·have h1:=ih hf
          simp only[oS]
          rw[cU]
          exact⟨by cases v<;>simp_all[iG,cP],h1⟩
         ·cases hf
        ·cases hf
      exact this hl
     obtain⟨h6,h7⟩:=lK hT parts.toList hj
     have e1:(parts.map fun x=>(x.1,a.eval x.2))=(kz (ah E H) (rq E ov parts.toList)).toArray:=by
      rw[<-h6];apply Array.ext';simp
     have hbrep:lj (ah E H).length (zo len z):=by
      intro c hc
      clear hl hle hle' hpos h hev plain plainC
      induction len with
      |zero=>simp[zo]at hc
      |succ n ih =>
       simp only[zo,List.mem_append]at hc
       rcases hc with hc|hc
       ·exact hz3 c hc
       ·exact ih hc
     obtain⟨h8,h9⟩:=j0 hl hbrep h7
     obtain⟨H',h3,h4,h5⟩:=j3 h hH h8
     have hzarr:((Array.range (len*aP P e)).map (fun i=>zv.cells[i%zv.cells.size]!))=(bJ (ah E H) (zo len z)).toArray:=by
      have hzs:zv.cells.size=aP P e:=by
       rw[<-hzl',<-bO (ah E H) z,<-hz2];simp
      have hrep:∀n,bJ (ah E H) (zo n z)=(List.range (n*aP P e)).map (fun i=>zv.cells[i%zv.cells.size]!):=by
       intro n
       induction n with
       |zero=>simp[zo,bJ]
       |succ n ih =>
        have e3:bJ (ah E H) (zo (n+1) z)=bJ (ah E H) z++bJ (ah E H) (zo n z):=by
         simp only[zo,di,List.map_append]
        rw[e3,ih,show(n+1)*aP P e=aP P e+n*aP P e from by rw[Nat.add_mul];omega,List.range_add,List.map_append,List.map_map]
        congr 1
        ·rw[<-hz2]
         apply List.ext_getElem
         ·simp[hzs]
         ·intro i h1 h2
          simp at h1 h2
          simp[hzs,Nat.mod_eq_of_lt h2]
          rw[getElem!_pos zv.cells i (by omega)]
        ·apply List.map_congr_left
         intro i _
         simp[hzs]
      rw[hrep len]
      apply Array.ext'
      simp
     refine dO (y:=.slice (some ⟨wa.heap.size,0,none⟩) len len) (w':=wa.alloc (.cells (bJ (ah E H) l).toArray e)) ?_ ⟨_,H',_,h3,h4,⟨_,h5⟩,rfl,?_,fun _=>(KpL.refl _ _).alloc _⟩
     ·simp only[execOp,e1]
      refine cq ?_
      have e4:(fun i=>some (i*aP P e,aP P e))=lz P e:=rfl
      simp only[Instr.buildSlice,Sem.run_bind,ai hu,Result.andThen_ok,cp hsz]
      rw[if_neg (by omega)]
      (try simp only[Sem.run_bind,Sem.run_pure,Result.andThen_ok])
      rw[if_neg (by omega)]
      simp only[Sem.run_bind,hz1,Result.andThen_ok,Sem.run_pure]
      rw[e4,hzarr,h9]
      simp only[Sem.run_bind,newRow,run_newObj,Sem.run_pure,Result.andThen_ok]
      rfl
     ·rw[kq h5]
      refine⟨by show _<_;simp,?_⟩
      simp[A.den,C.den]
    ·exact hev (s:=pure undef) h e hu
   ·exact h.elim
  ·exact h.elim
 case store t p x =>
  obtain⟨ad,w',H',h1,h2,h3,h4,h5⟩:=oT h hH (bR hT p) (bR hT x)
  refine ng (w':=w') ?_ ⟨.tup [],H',undef,h3,h4,⟨[],by simp[h5]⟩,rfl,⟨by simp,rfl⟩,fun hc=>by cases hc⟩
  simp only[execOp,h1,Instr.storeAt,Instr.sureAddr]
  simp[h2]
 case convert src dst x =>
  refine plain h (fun hj w=>?_) rfl
  simp only[execOp,bV hT rfl hj]
 case makeMap t r =>
  cases r with
  |none =>
   refine plain h (fun hj w=>?_) rfl
   simp[execOp]
  |some r =>
   refine plain h (fun hj w=>?_) rfl
   simp only[execOp,Option.map,bV hT rfl hj]
 case makeSlice t l c =>
  refine plain h (fun hj w=>?_) rfl
  have hj':=hj
  rw[cU]at hj'
  simp only[execOp,bV hT rfl hj'.1,bV hT rfl hj'.2]
 case lookup t x ix ok =>
  refine plain h (fun hj w=>?_) rfl
  have hj':=hj
  rw[cU]at hj'
  simp only[execOp,bV hT rfl hj'.1,bV hT rfl hj'.2]
 case range t x =>
  refine plainC h (fun hj w=>?_) rfl
  simp only[execOp,bV hT rfl hj]
 case next x st =>
  refine plainC h (fun hj w=>?_) rfl
  simp only[execOp,bV hT rfl hj]
 case entry x =>
  refine plainC h (fun hj w=>?_) rfl
  simp only[execOp,bV hT rfl hj]
 case sliceToArrayPointer t x =>
  refine plainC h (fun hj w=>?_) rfl
  simp only[execOp,bV hT rfl hj]
 case mapUpdate t m y x =>
  obtain⟨hj,yy,wb,v,H',h1,h2,h3,h4,h5⟩:=gP h hH
  have hj':=hj
  rw[cU]at hj'
  have hj2:=hj'.2
  rw[cU]at hj2
  simp only[Sem.run_bind]at h1
  cases hr:(Instr.mapUpdate t ((ev E ov m).den (ah E H)) ((ev E ov y).den (ah E H)) ((ev E ov x).den (ah E H))).run P wa with
  |halt hh w=>simp[hr]at h1
  |ok u w =>
   simp only[hr,Result.andThen_ok,Sem.run_pure,Result.ok.injEq]at h1
   obtain⟨rfl,rfl⟩:=h1
   refine ng (w':=w) ?_ ⟨v,H',undef,h2,h3,⟨[],by simp[h4]⟩,rfl,by rw[bu h4];exact h5,fun hc=>by cases hc⟩
   simp only[execOp,bV hT rfl hj'.1,bV hT rfl hj2.1,bV hT rfl hj2.2]
   simp[hr]
 case insert t m y x =>
  obtain⟨hj,yy,wb,v,H',h1,h2,h3,h4,h5⟩:=gP h hH
  have hj':=hj
  rw[cU]at hj'
  have hj2:=hj'.2
  rw[cU]at hj2
  simp only[Sem.run_bind]at h1
  cases hr:(Instr.mapUpdate t ((ev E ov m).den (ah E H)) ((ev E ov y).den (ah E H)) ((ev E ov x).den (ah E H))).run P wa with
  |halt hh w=>simp[hr]at h1
  |ok u w =>
   simp only[hr,Result.andThen_ok,Sem.run_pure,Result.ok.injEq]at h1
   obtain⟨rfl,rfl⟩:=h1
   refine ng (w':=w) ?_ ⟨v,H',undef,h2,h3,⟨[],by simp[h4]⟩,rfl,by rw[bu h4];exact h5,fun hc=>by cases hc⟩
   simp only[execOp,bV hT rfl hj'.1,bV hT rfl hj2.1,bV hT rfl hj2.2]
   simp[hr]
 case call c =>
  obtain⟨callee,args,argTypes⟩:=c
  cases callee<;>(try dsimp only at h)<;>(try exact h.elim)
  case builtin b =>
   cases b<;>(try dsimp only at h)<;>(try exact h.elim)
   case len =>
    refine plain h (fun hj w=>?_) rfl
    simp only[execOp,resolve,invoke,builtin,eI hT args hj]
    simp
   case append =>
    refine plain h (fun hj w=>?_) rfl
    simp only[execOp,resolve,invoke,builtin,eI hT args hj]
    simp
   case copy =>
    refine plain h (fun hj w=>?_) rfl
    simp only[execOp,resolve,invoke,builtin,eI hT args hj]
    simp
   case delete =>
    refine plain h (fun hj w=>?_) rfl
    simp only[execOp,resolve,invoke,builtin,eI hT args hj]
    simp
  case value f =>
   cases f<;>(try dsimp only at h)<;>(try exact h.elim)
   case func f =>
    refine rr hP h hH (fun hj w=>?_) (fun hc=>?_)
    ·simp only[execOp,resolve,Act.eval,Deferred.ofValue,invoke,eI hT args hj]
     simp
    ·simpa[mJ]using hc
   case tmp t =>
    split at h
    ·rename_i f first caps he
     have hr:=bR hT (.tmp t)
     have he':ev E ov (.tmp t)=.a (.c (.v (.func (.func f) first caps))):=he
     rw[he']at hr
     refine r8 hP h hH (fun hj w=>?_) (by simp[mJ])
     have hv:a.eval (.tmp t)=.func (.func f) first caps:=hr.2
     have e9:(first.toList++dY (ah E H) (lP E ov args.toList)++caps.toList).toArray=first++(dY (ah E H) (lP E ov args.toList)).toArray++caps:=by
      apply Array.ext';simp
     rw[e9]
     simp only[execOp,resolve,hv,Deferred.ofValue,eI hT args hj]
     simp[invoke]
    ·exact h.elim
end Go.Vc
namespace Go.Vc
open Go
variable {P:Program}
theorem xM(hP:wV P){E:En}{ov:Ov}{H:Hp}{o:Oper}{k:V->Hp->Prop}{a:Act}{wa:World}{Q:Exit->Act->World->Prop}
 (hT:ct E (ah E H) ov a)(hH:bD E H wa)(h:Fj P E ov H o k):o.wp P a wa (Nx E H o k a wa) Q:=by
 unfold Fj at h
 split at h
 ·obtain⟨v,H',y,h1,h2,h3,h4,h5,h6⟩:=py 0 hT hH h
  exact dO (h6 wa h5) ⟨v,H',y,h1,h2,⟨[],by simp[h3]⟩,rfl,by rw[bu h3];exact h4,fun _=>KpL.refl _ _⟩
 ·exact pI hP hT hH h
theorem ct.narrow{E:En}{ρ:List Nat}{ov:Ov}{a:Act}(h:ct E ρ ov a){d:Nat}{b:Bool}(hd:a.tmps.getD d undef=.bool b):ct E ρ ((d,wC b)::ov) a:=by
 refine⟨h.df,h.size,h.bl,fun t ht=>?_⟩
 rw[show((d,wC b)::ov)=kR (some d) (wC b) ov from rfl,ta E ov (some d) (wC b) t ht]
 split
 ·rename_i he
  simp only[Option.some.injEq]at he
  subst he
  rw[hd]
  exact⟨trivial,rfl⟩
 ·exact h.rel t ht
theorem ne{E:En}{ov:Ov}{t:Nat}{v:V}(h:fO E ov t=v)(hv:v≠.j):t<E.n:=by
 unfold fO at h
 split at h
 ·rename_i hb;rwa [Nat.blt_eq]at hb
 ·exact absurd h.symm hv
theorem gW{E:En}{ρ:List Nat}{ov:Ov}{a:Act}(hT:ct E ρ ov a){ops:Array Oper}{j d:Nat}{oj:Oper}(hj:ops[j]?=some oj)(hd:oj.dst=some d)
 {c:C}(hs:fO E ov d=.a (.c c)):a.tmps.getD d undef=c.den ρ/\yielded ops a.tmps j=(match c.den ρ with|.bool b=>some b|_=>none):=by
 have hlt:=ne hs (by simp)
 have hr:=hT.rel d hlt
 rw[hs]at hr
 have h1:=hr.2
 refine⟨h1,?_⟩
 have hsz:d<a.tmps.size:=by rw[hT.size];exact hlt
 have h2:a.tmps[d]?=some (c.den ρ):=by
  rw[<-show a.tmps.getD d undef=c.den ρ from h1];simp[hsz]
 simp only[yielded,hj,Option.bind_some,hd,h2]
 cases c.den ρ<;>rfl
theorem oh{E:En}{ρ:List Nat}{ov:Ov}{a:Act}(hT:ct E ρ ov a){ops:Array Oper}{o:Oper}{run skip:Ov->Prop}(h:gd E ops.toList ov o run skip):
 (Region.wanted o (yielded ops a.tmps)=true/\∃ov',run ov'/\ct E ρ ov' a)∨(Region.wanted o (yielded ops a.tmps)=false/\∃ov',skip ov'/\ct E ρ ov' a):=by
 unfold gd at h
 split at h
 ·rename_i hg
  exact .inl ⟨by simp[Region.wanted,hg],ov,h,hT⟩
 ·rename_i j want hg
  have hw:∀y,yielded ops a.tmps j=y->Region.wanted o (yielded ops a.tmps)=(y == some want):=fun y hy=>by simp[Region.wanted,hg,hy]
  split at h
  ·rename_i hj
   have hj':ops[j]?=none:=by simpa using hj
   refine .inr ⟨?_,ov,h,hT⟩
   rw[hw none (by simp[yielded,hj'])];rfl
  ·rename_i oj hj
   have hj':ops[j]?=some oj:=by simpa using hj
   split at h
   ·rename_i hd
    refine .inr ⟨?_,ov,h,hT⟩
    rw[hw none (by simp[yielded,hj',hd])];rfl
   ·rename_i d hd
    split at h
    ·rename_i hs
     refine .inr ⟨?_,ov,h,hT⟩
     have hlt:=ne hs (by simp)
     have hr:=hT.rel d hlt
     rw[hs]at hr
     have hsz:d<a.tmps.size:=by rw[hT.size];exact hlt
     have h2:a.tmps[d]?=some undef:=by
      have h1:a.tmps.getD d undef=undef:=hr.2
      rw[<-h1];simp[hsz]
     rw[hw none (by simp[yielded,hj',hd,h2,undef])];rfl
    ·rename_i b hs
     obtain⟨h1,h2⟩:=gW hT hj' hd hs
     simp only[C.den]at h2
     have h3:=hw _ h2
     split at h
     ·exact .inl ⟨by rw[h3];rfl,ov,h,hT⟩
     ·exact .inl ⟨by rw[h3];rfl,ov,h,hT⟩
     ·rename_i hn1 hn2
      refine .inr ⟨?_,ov,h,hT⟩
      rw[h3]
      cases b<;>cases want<;>first|rfl|exact absurd rfl (hn1 rfl)|exact absurd rfl (hn2 rfl)
    ·rename_i b hs
     obtain⟨h1,h2⟩:=gW hT hj' hd hs
     simp only[C.den]at h1 h2
     have h3:=hw _ h2
     split at h<;>cases b
     ·exact .inr ⟨by rw[h3];rfl,_,h.2 rfl,hT.narrow h1⟩
     ·exact .inl ⟨by rw[h3];rfl,_,h.1 rfl,hT.narrow h1⟩
     ·exact .inl ⟨by rw[h3];rfl,_,h.1 rfl,hT.narrow h1⟩
     ·exact .inr ⟨by rw[h3];rfl,_,h.2 rfl,hT.narrow h1⟩
    ·rename_i p dd hs
     obtain⟨h1,h2⟩:=gW hT hj' hd hs
     simp only[C.den]at h1 h2
     have h3:=hw _ h2
     split at h<;>by_cases hp:p
     ·exact .inl ⟨by rw[h3];simp[hp],_,h.1 hp,hT.narrow (by rw[h1];simp[hp])⟩
     ·exact .inr ⟨by rw[h3];simp[hp],_,h.2 hp,hT.narrow (by rw[h1];simp[hp])⟩
     ·exact .inr ⟨by rw[h3];simp[hp],_,h.2 hp,hT.narrow (by rw[h1];simp[hp])⟩
     ·exact .inl ⟨by rw[h3];simp[hp],_,h.1 hp,hT.narrow (by rw[h1];simp[hp])⟩
    ·exact h.elim
def lO(E:En)(rho0:List Nat)(K:Exit->Ov->Hp->Prop)(e:Exit)(a:Act)(w:World):Prop :=
 ∃ov H,K e ov H/\bD E H w/\ct E (ah E H) ov a/\∃ext,H.rho=rho0++ext
theorem Nx.good{E:En}{H:Hp}{o:Oper}{k:V->Hp->Prop}{a a':Act}{wa w':World}{ov:Ov}(h:Nx E H o k a wa a' w')(hT:ct E (ah E H) ov a):
 ∃v H',k v H'/\bD E H' w'/\ct E (ah E H') (kR o.dst v ov) a'/\(∃ext,H'.rho=H.rho++ext):=by
 obtain⟨v,H',y,h1,h2,⟨ext,h3⟩,rfl,h5,_⟩:=h
 refine⟨v,H',h1,h2,?_,ext,h3⟩
 have:=hT.append ext
 rw[<-kq (E:=E) h3]at this
 exact this.put o.dst h5
theorem uq(hP:wV P){E:En}{ops:Array Oper}{rho0:List Nat}{k:Ov->Hp->Prop}{Q:Exit->Act->World->Prop}
 (hQ:∀ov H a w,k ov H->bD E H w->ct E (ah E H) ov a->(∃ext,H.rho=rho0++ext)->Q .normal a w):
 ∀(r:List Oper) (i:Nat),(∀m,r[m]?=ops[i+m]?)->∀(ov:Ov) (H:Hp) (a:Act) (w:World),zD P E ops.toList r ov H k->bD E H w->ct E (ah E H) ov a->
  (∃ext,H.rho=rho0++ext)->wpOps P ops Q (List.range' i r.length) a w:=by
 intro r
 induction r with
 |nil =>
  intro i _ ov H a w h hH hT he
  exact hQ ov H a w h hH hT he
 |cons o r ih =>
  intro i hi ov H a w h hH hT he
  have ho:ops[i]?=some o:=by simpa using (hi 0).symm
  have hi':∀m,r[m]?=ops[i+1+m]?:=fun m=>by
   have:=hi (m+1)
   simp only[List.getElem?_cons_succ]at this
   rw[this];congr 1;omega
  simp only[List.length_cons,List.range'_succ,wpOps,ho]
  rcases oh hT h with ⟨h1,ov',h2,h3⟩|⟨h1,ov',h2,h3⟩
  ·rw[if_pos h1]
   left
   refine Oper.wp_mono ?_ (xM hP h3 hH h2)
   intro a' w' hn
   obtain⟨v,H',h4,h5,h6,ext,h7⟩:=hn.good h3
   obtain⟨ext0,he⟩:=he
   exact ih (i+1) hi' _ H' a' w' h4 h5 h6 ⟨ext0++ext,by rw[h7,he,List.append_assoc]⟩
  ·rw[if_neg (by simp[h1])]
   exact ih (i+1) hi' _ H _ w h2 hH (h3.put o.dst (y:=undef) ⟨by simp,rfl⟩) he
theorem qv(hP:wV P){E:En}{ops:Array Oper}{id:Nat}{K:Exit->Ov->Hp->Prop}{ov:Ov}{H:Hp}{a:Act}{w:World}
 (h:zD P E ops.toList ops.toList ov H (K .normal))(hH:bD E H w)(hT:ct E (ah E H) ov a):(Code.region id ops false).wp P (lO E H.rho K) a w:=by
 refine wp_region ?_
 have:=uq hP (E:=E) (ops:=ops) (rho0:=H.rho) (k:=K .normal) (Q:=lO E H.rho K) (fun ov H a w h1 h2 h3 h4=>⟨ov,H,h1,h2,h3,h4⟩)
  ops.toList 0 (fun m=>by simp) ov H a w h hH hT ⟨[],by simp⟩
 rw[List.range_eq_range']
 simpa using this
end Go.Vc
namespace Go.Vc
open Go
variable {P:Program}
section
variable {ops:Array Oper} {am:List Nat} {Q:Exit->Act->World->Prop}
def qY(ops:Array Oper)(am:List Nat):Prop :=
 ∀j oj,ops[j]?=some oj->∀b,(am.getD j 0).testBit b=true->∃e∈oj.after,Region.binds .any e=true/\e.on<j/\(e.on=b∨(am.getD e.on 0).testBit b=true)
def AW(ops:Array Oper)(L:Array Bool):Prop :=
 ∀j oj,ops[j]?=some oj->L.getD j true=true->∀e∈oj.after,Region.binds .any e=true->L.getD e.on false=true
theorem nP(hm:qY ops am){L:Array Bool}(hsz:L.size=ops.size)(hd:AW ops L):∀j oj,ops[j]?=some oj->
 (∀e∈oj.after,Region.binds .any e=true->L.getD e.on false=true)->∀b,(am.getD j 0).testBit b=true->L.getD b false=true:=by
 intro j
 induction j using Nat.strongRecOn with
 |_ j ih =>
  intro oj hj hall b hb
  obtain⟨e,he,hbind,hlt,h⟩:=hm j oj hj b hb
  have h1:=hall e he hbind
  rcases h with rfl|h
  ·exact h1
  ·have hlt2:e.on<ops.size:=by
    have:=(Array.getElem?_eq_some_iff.1 hj).1;omega
   have h2:L.getD e.on true=true:=by
    have:e.on<L.size:=by omega
    simp[this]at h1 ⊢;exact h1
   exact ih e.on hlt ops[e.on] (by simp[hlt2]) (fun e' he' hb'=>hd e.on _ (by simp[hlt2]) h2 e' he' hb') b h
theorem ip{L:Array Bool}{i:Nat}(h:L.getD i false=true):L.getD i true=true:=by
 rcases Nat.lt_or_ge i L.size with h'|h'
 ·simp[h']at h ⊢;exact h
 ·simp[Array.getElem?_eq_none h']at h
theorem iX{L:Array Bool}(hd:AW ops L){i:Nat}(hi:i∈Region.ready .any ops L):AW ops (L.setIfInBounds i true):=by
 obtain⟨h0,o,ho,hall⟩:=mem_ready.1 hi
 intro j oj hj hl e he hb
 by_cases hij:i=j
 ·subst hij
  rw[ho]at hj
  simp only[Option.some.injEq]at hj
  subst hj
  exact getD_set_true (hall e he hb)
 ·rw[getD_set_ne true hij]at hl
  exact getD_set_true (hd j oj hj hl e he hb)
def Rg(P:Program)(ops:Array Oper)(am:List Nat)(Q:Exit->Act->World->Prop):Nat->Array Bool->List (Nat×(World->Prop))->Act->World->Prop
 |0,L,_,a,w=>Region.ready .any ops L=[]/\Q .normal a w
 |n+1,L,O,a,w=>(Region.ready .any ops L=[]->Q .normal a w)/\
   ∀j∈Region.ready .any ops L,wpOp P ops Q j (fun a' w'=>(∀x∈O,(am.getD j 0).testBit x.1=false->x.2 w')/\
    Rg P ops am Q n (L.setIfInBounds j true) (O.filter fun x => !(am.getD j 0).testBit x.1) a' w') a w
theorem B0:∀(n:Nat) (L:Array Bool) (O:List (Nat×(World->Prop))) (a:Act) (w:World),Rg P ops am Q n L O a w->wpAny P .any ops Q n L a w
 |0,_,_,_,_,h=>h
 |n+1,_,_,_,_,h=>⟨h.1,fun i hi=>wpOp_mono (fun a' w' h'=>B0 n _ _ a' w' h'.2) (h.2 i hi)⟩
theorem wl:∀(n:Nat) (L:Array Bool) (O O':List (Nat×(World->Prop))) (a:Act) (w:World),(∀x∈O',x∈O)->Rg P ops am Q n L O a w->Rg P ops am Q n L O' a w
 |0,_,_,_,_,_,_,h=>h
 |n+1,_,O,O',_,_,hs,h=>⟨h.1,fun i hi=>wpOp_mono (fun a' w' h'=>⟨fun x hx hb=>h'.1 x (hs x hx) hb,
   wl n _ _ _ a' w' (fun x hx=>by
    rw[List.mem_filter]at hx ⊢
    exact⟨hs x hx.1,hx.2⟩) h'.2⟩) (h.2 i hi)⟩
def vV(ops:Array Oper)(am:List Nat):Prop :=
 ∀i oi j oj,ops[i]?=some oi->ops[j]?=some oj->j<i->(am.getD i 0).testBit j=false->oi.apart ops oj=true/\oj.apart ops oi=true
theorem wA(hm:qY ops am)(hap:vV ops am)(hsel:∀(j:Nat) (o:Oper) cs b,ops[j]?=some o->o.op≠.select cs b){i:Nat}{oi:Oper}{v:Value}(hi:ops[i]?=some oi)
 (hQ:∀c a w,Q (.panic c) (a.put oi.dst v) w->Q (.panic c) a w){S:World->Prop}:
 ∀(n:Nat) (L:Array Bool) (O:List (Nat×(World->Prop))) (a:Act) (w:World),L.size=ops.size->AW ops L->i∈Region.ready .any ops L->YieldsIf P ops S oi v a->S w->
  (∀x∈O,x.2 w)->Rg P ops am Q n (L.setIfInBounds i true) ((i,S)::O) (a.put oi.dst v) w->Rg P ops am Q (n+1) L O a w:=by
 intro n
 induction n with
 |zero =>
  intro L O a w hsz hd hr hy hS hO h
  refine⟨fun h0=>(by rw[h0]at hr;cases hr),fun j hj=>?_⟩
  by_cases hji:j=i
  ·subst hji
   exact hy.wpOp hi hS ⟨fun x hx _=>hO x hx,h⟩
  ·have:=ready_mono hj hji
   rw[h.1]at this
   cases this
 |succ n ih =>
  intro L O a w hsz hd hr hy hS hO h
  refine⟨fun h0=>(by rw[h0]at hr;cases hr),fun j hj=>?_⟩
  by_cases hji:j=i
  ·subst hji
   exact hy.wpOp hi hS ⟨fun x hx _=>hO x hx,wl _ _ _ _ _ _ (fun x hx=>List.mem_cons_of_mem _ (List.mem_filter.1 hx).1) h⟩
  ·have h1:=h.2 j (ready_mono hj hji)
   obtain⟨hjun,oj,hoj,hall⟩:=mem_ready.1 hj
   obtain⟨hiun,oi',hoi',halli⟩:=mem_ready.1 hr
   rw[hi]at hoi'
   simp only[Option.some.injEq]at hoi'
   subst hoi'
   have hji':(am.getD j 0).testBit i=false:=by
    cases hb:(am.getD j 0).testBit i with
    |false=>rfl
    |true =>
     have:=ip (nP hm hsz hd j oj hoj hall i hb)
     rw[hiun]at this;cases this
   have hij':(am.getD i 0).testBit j=false:=by
    cases hb:(am.getD i 0).testBit j with
    |false=>rfl
    |true =>
     have:=ip (nP hm hsz hd i oi hi halli j hb)
     rw[hjun]at this;cases this
   have hapart:oi.apart ops oj=true:=by
    rcases Nat.lt_or_gt_of_ne hji with hlt|hlt
    ·exact(hap i oi j oj hi hoj hlt hij').1
    ·exact(hap j oj i oi hoj hi hlt hji').2
   have h2:=wpOp_putIf hoj hapart (fun cs b=>hsel i oi cs b hi) (fun cs b=>hsel j oj cs b hoj) hQ hy h1
   refine wpOp_mono (fun a' w' h3=>⟨fun x hx hb=>h3.2.1 x (List.mem_cons_of_mem _ hx) hb,?_⟩) h2
   refine ih (L.setIfInBounds j true) _ a' w' (by simpa using hsz) (iX hd hj) (ready_mono hr (Ne.symm hji)) h3.1 (h3.2.1 (i,S) (by simp) hji') ?_ ?_
   ·intro x hx
    rw[List.mem_filter]at hx
    exact h3.2.1 x (List.mem_cons_of_mem _ hx.1) (by simpa using hx.2)
   ·have h4:=h3.2.2
    rw[List.filter_cons,if_pos (by show(!(am.getD j 0).testBit i)=true;rw[hji'];rfl)]at h4
    rw[Array.setIfInBounds_comm _ _ hji]
    exact h4
end
theorem mc(am:List Nat):∀(l:List Edge) (b:Nat),(iq am l).testBit b=true->∃e∈l,jK e=true/\(e.on=b∨(am.getD e.on 0).testBit b=true)
 |[],b,h=>by simp[iq]at h
 |e::r,b,h=>by
  simp only[iq]at h
  split at h
  ·rename_i hb
   have h':((2 ^ e.on ||| am.getD e.on 0) ||| iq am r).testBit b=true:=h
   rw[Nat.testBit_or,Nat.testBit_or,Bool.or_eq_true,Bool.or_eq_true]at h'
   rcases h' with (h1|h1)|h1
   ·rw[Nat.testBit_two_pow]at h1
    exact⟨e,by simp,hb,.inl (by simpa using h1)⟩
   ·exact⟨e,by simp,hb,.inr h1⟩
   ·obtain⟨e',he',h2,h3⟩:=mc am r b h1
    exact⟨e',by simp[he'],h2,h3⟩
  ·obtain⟨e',he',h2,h3⟩:=mc am r b h
   exact⟨e',by simp[he'],h2,h3⟩
theorem nR:∀{l:List Edge} {i:Nat},rK i l=true->∀e∈l,jK e=true->e.on<i
 |[],_,_,e,he,_=>by simp at he
 |x::r,i,h,e,he,hb=>by
  simp only[rK]at h
  split at h
  ·rename_i hx
   split at h
   ·rename_i hlt
    rw[Nat.blt_eq]at hlt
    rcases List.mem_cons.1 he with rfl|he
    ·exact hlt
    ·exact nR h e he hb
   ·cases h
  ·rename_i hx
   rcases List.mem_cons.1 he with rfl|he
   ·rw[hb]at hx;cases hx
   ·exact nR h e he hb
theorem jS:∀{l:List Oper} {k:Nat},lg k l=true->∀i o,l[i]?=some o->∀e∈o.after,jK e=true->e.on<k+i
 |[],_,_,i,o,h,_,_,_=>by simp at h
 |x::r,k,h,i,o,ho,e,he,hb=>by
  simp only[lg]at h
  split at h
  ·rename_i hx
   cases i with
   |zero =>
    simp only[List.getElem?_cons_zero,Option.some.injEq]at ho
    subst ho
    exact nR hx e (by simpa using he) hb
   |succ i =>
    have:=jS h i o (by simpa using ho) e he hb
    omega
  ·cases h
theorem mB{am bm:List Nat}{i:Nat}(h:am <+: bm)(hi:i<am.length):bm.getD i 0=am.getD i 0:=by
 obtain⟨t,rfl⟩:=h
 exact dH hi
theorem gL:∀(l:List Oper) (am:List Nat),am <+: eO l am
 |[],_=>List.prefix_refl _
 |o::r,am=>(List.prefix_append am [iq am o.after.toList]).trans (gL r _)
theorem pr:∀(l:List Oper) (am:List Nat) (i:Nat) (o:Oper),l[i]?=some o->
 ∃bm,bm <+: eO l am/\bm.length=am.length+i/\(eO l am).getD (am.length+i) 0=iq bm o.after.toList
 |[],_,i,o,h=>by simp at h
 |x::r,am,0,o,h=>by
  simp only[List.getElem?_cons_zero,Option.some.injEq]at h
  subst h
  refine⟨am,gL (x::r) am,rfl,?_⟩
  have h1:(am++[iq am x.after.toList]) <+: eO (x::r) am:=gL r _
  rw[mB h1 (by simp)]
  simp[List.getD]
 |x::r,am,i+1,o,h=>by
  obtain⟨bm,h1,h2,h3⟩:=pr r (am++[iq am x.after.toList]) i o (by simpa using h)
  refine⟨bm,h1,by simp at h2;omega,?_⟩
  rw[<-h3]
  show(eO r (am++[iq am x.after.toList])).getD _ 0=_
  congr 1
  simp;omega
theorem yL{ops:Array Oper}(hb:lg 0 ops.toList=true):qY ops (eO ops.toList []):=by
 intro j oj hj b hbit
 have hj':ops.toList[j]?=some oj:=by simpa using hj
 obtain⟨bm,h1,h2,h3⟩:=pr ops.toList [] j oj hj'
 simp only[List.length_nil,Nat.zero_add]at h2 h3
 rw[h3]at hbit
 obtain⟨e,he,hbe,h4⟩:=mc bm _ b hbit
 have hlt:=jS hb j oj hj' e (by simpa using he) hbe
 rw[Nat.zero_add]at hlt
 exact⟨e,by simpa using he,hbe,hlt,h4.imp id fun h5=>by rw[mB h1 (by omega)];exact h5⟩
theorem kK{ops:Array Oper}{m i:Nat}{o:Oper}:∀{l:List Oper} {k:Nat},jP ops m i o k l=true->
 ∀j p,l[j]?=some p->k+j<i->m.testBit (k+j)=false->o.apart ops p=true/\p.apart ops o=true
 |[],_,_,j,p,hp,_,_=>by simp at hp
 |x::r,k,h,j,p,hp,hlt,hb=>by
  simp only[jP]at h
  cases j with
  |zero =>
   simp only[List.getElem?_cons_zero,Option.some.injEq]at hp
   subst hp
   simp only[Nat.add_zero]at hlt hb
   rw[hb]at h
   simp only at h
   have h1:Nat.ble i k=false:=by
    cases hx:Nat.ble i k with
    |false=>rfl
    |true=>have:=Nat.le_of_ble_eq_true hx;omega
   rw[h1]at h
   simp only at h
   split at h
   ·rename_i h2 h3;exact⟨h2,h3⟩
   ·cases h
  |succ j =>
   have hgo:jP ops m i o (k+1) r=true:=by
    split at h
    ·exact h
    ·have h1:Nat.ble i k=false:=by
      cases hx:Nat.ble i k with
      |false=>rfl
      |true=>have:=Nat.le_of_ble_eq_true hx;omega
     rw[h1]at h
     simp only at h
     split at h
     ·exact h
     ·cases h
   exact kK hgo j p (by simpa using hp) (by omega) (by rw[show k+1+j=k+(j+1) from by omega];exact hb)
theorem iR{ops:Array Oper}{am:List Nat}:∀{l:List Oper} {k:Nat},kV ops am k l=true->
 ∀i o,l[i]?=some o->jP ops (am.getD (k+i) 0) (k+i) o 0 ops.toList=true
 |[],_,_,i,o,h=>by simp at h
 |x::r,k,h,i,o,ho=>by
  simp only[kV]at h
  split at h
  ·rename_i h1
   cases i with
   |zero =>
    simp only[List.getElem?_cons_zero,Option.some.injEq]at ho
    subst ho
    exact h1
   |succ i =>
    have:=iR h i o (by simpa using ho)
    rw[show k+(i+1)=k+1+i from by omega]
    exact this
  ·cases h
theorem mI:∀{l:List Oper},vN l=true->∀o∈l,∀cs b,o.op≠.select cs b
 |[],_,o,ho=>by simp at ho
 |x::r,h,o,ho=>by
  intro cs b
  simp only[vN]at h
  split at h
  ·cases h
  ·rename_i hx
   rcases List.mem_cons.1 ho with rfl|ho
   ·exact hx cs b
   ·exact mI h o ho cs b
theorem sS{ops:Array Oper}(h:r9 ops=true):qY ops (eO ops.toList [])/\vV ops (eO ops.toList [])/\
 ∀(j:Nat) (o:Oper) cs b,ops[j]?=some o->o.op≠.select cs b:=by
 unfold r9 at h
 split at h
 ·rename_i h1 h2 h3
  refine⟨yL h1,?_,fun j o cs b ho=>mI h2 o (by simpa using List.mem_of_getElem? (l:=ops.toList) (by simpa using ho)) cs b⟩
  intro i oi j oj hi hj hlt hb
  have h4:=iR h3 i oi (by simpa using hi)
  simp only[Nat.zero_add]at h4
  exact kK h4 j oj (by simpa using hj) (by omega) (by rw[Nat.zero_add];exact hb)
 ·cases h
def mg(ops:Array Oper)(done:List Nat)(L:Array Bool):Prop:=L.size=ops.size/\∀j,j<ops.size->(L.getD j true=true↔j∈done)
theorem oA{done:List Nat}{n:Nat}{L:Array Bool}(hL:∀j,j<n->(L.getD j true=true↔j∈done))(hsz:L.size=n):∀{l:List Edge},(∀e∈l,jK e=true->e.on<n)->
 (yN done l=true↔∀e∈l,jK e=true->L.getD e.on false=true)
 |[],_=>by simp[yN]
 |e::r,hlt=>by
  have ih:=oA hL hsz (l:=r) (fun e' he'=>hlt e' (by simp[he']))
  simp only[yN]
  split
  ·rename_i hb
   rw[ih]
   constructor
   ·intro h e' he' hb'
    rcases List.mem_cons.1 he' with rfl|he'
    ·rw[hb]at hb';cases hb'
    ·exact h e' he' hb'
   ·exact fun h e' he' hb'=>h e' (by simp[he']) hb'
  ·rename_i hb
   have hon:=hlt e (by simp) hb
   have h1:=hL e.on hon
   have h2:L.getD e.on false=L.getD e.on true:=by
    have:e.on<L.size:=by omega
    simp[this]
   split
   ·rename_i hm
    rw[fI]at hm
    rw[ih]
    constructor
    ·intro h e' he' hb'
     rcases List.mem_cons.1 he' with rfl|he'
     ·rw[h2];exact h1.2 hm
     ·exact h e' he' hb'
    ·exact fun h e' he' hb'=>h e' (by simp[he']) hb'
   ·rename_i hm
    rw[fC]at hm
    simp only[Bool.false_eq_true,false_iff]
    intro h
    have:=h e (by simp) hb
    rw[h2]at this
    exact hm (h1.1 this)
theorem jl{ops:Array Oper}(hback:∀(i:Nat) (o:Oper),ops[i]?=some o->∀e∈o.after,jK e=true->e.on<i){done:List Nat}{L:Array Bool}(h:mg ops done L){i:Nat}{o:Oper}
 (ho:ops[i]?=some o):BT done i o=true↔i∈Region.ready .any ops L:=by
 have hlt:=(Array.getElem?_eq_some_iff.1 ho).1
 rw[mem_ready]
 have hE:=oA (done:=done) (n:=ops.size) h.2 h.1 (l:=o.after.toList) (fun e he hb=>by
  have:=hback i o ho e (by simpa using he) hb;omega)
 have h1:=h.2 i hlt
 unfold BT
 split
 ·rename_i hm
  rw[fI]at hm
  have:=h1.2 hm
  simp[this]
 ·rename_i hm
  rw[fC]at hm
  have h0:L.getD i true=false:=by
   cases hc:L.getD i true with
   |false=>rfl
   |true=>exact absurd (h1.1 hc) hm
  rw[hE]
  constructor
  ·exact fun h=>⟨h0,o,ho,fun e he hb=>h e (by simpa using he) hb⟩
  ·rintro⟨_,o',ho',h⟩
   rw[ho]at ho'
   simp only[Option.some.injEq]at ho'
   subst ho'
   exact fun e he hb=>h e (by simpa using he) hb
theorem kE{done:List Nat}:∀{l:List Oper} {k i:Nat} {o:Oper},ge P done k l=some (i,o)->∃m,i=k+m/\l[m]?=some o/\jM P o.op=true/\BT done i o=true
 |[],k,i,o,h=>by simp[ge]at h
 |x::r,k,i,o,h=>by
  simp only[ge]at h
  have go:ge P done (k+1) r=some (i,o)->∃m,i=k+m/\(x::r)[m]?=some o/\jM P o.op=true/\BT done i o=true:=fun h=>by
   obtain⟨m,h1,h2,h3,h4⟩:=kE h
   exact⟨m+1,by omega,by simpa using h2,h3,h4⟩
  split at h
  ·rename_i hq
   split at h
   ·rename_i hr
    simp only[Option.some.injEq,Prod.mk.injEq]at h
    obtain⟨rfl,rfl⟩:=h
    exact⟨0,rfl,rfl,hq,hr⟩
   ·exact go h
  ·exact go h
theorem mj{done:List Nat}:∀{l:List Oper} {k:Nat},ge P done k l=none->∀m o,l[m]?=some o->BT done (k+m) o=true->jM P o.op=false
 |[],k,_,m,o,h,_=>by simp at h
 |x::r,k,h,m,o,ho,hr=>by
  simp only[ge]at h
  cases m with
  |zero =>
   simp only[List.getElem?_cons_zero,Option.some.injEq]at ho
   subst ho
   cases hq:jM P x.op with
   |false=>rfl
   |true =>
    rw[hq]at h
    simp only[Nat.add_zero]at hr
    rw[hr]at h
    cases h
  |succ m =>
   have hgo:ge P done (k+1) r=none:=by
    split at h
    ·split at h
     ·cases h
     ·exact h
    ·exact h
   exact mj hgo m o (by simpa using ho) (by rw[show k+1+m=k+(m+1) from by omega];exact hr)
theorem j7{done:List Nat}:∀{l:List Oper} {k:Nat} (m:Nat) (o:Oper),l[m]?=some o->BT done (k+m) o=true->(k+m,o)∈dR done k l
 |[],k,m,o,h,_=>by simp at h
 |x::r,k,0,o,h,hr=>by
  simp only[List.getElem?_cons_zero,Option.some.injEq]at h
  subst h
  simp only[Nat.add_zero]at hr
  simp[dR,hr]
 |x::r,k,m+1,o,h,hr=>by
  have:=j7 (k:=k+1) m o (by simpa using h) (by rw[show k+1+m=k+(m+1) from by omega];exact hr)
  rw[show k+1+m=k+(m+1) from by omega]at this
  simp only[dR]
  split
  ·exact List.mem_cons_of_mem _ this
  ·exact this
theorem kP{done:List Nat}:∀{l:List Oper} {k:Nat} {x:Nat×Oper},x∈dR done k l->∃m,x.1=k+m/\l[m]?=some x.2/\BT done x.1 x.2=true
 |[],k,x,h=>by simp[dR]at h
 |y::r,k,x,h=>by
  have go:x∈dR done (k+1) r->∃m,x.1=k+m/\(y::r)[m]?=some x.2/\BT done x.1 x.2=true:=fun h=>by
   obtain⟨m,h1,h2,h3⟩:=kP h
   exact⟨m+1,by omega,by simpa using h2,h3⟩
  simp only[dR]at h
  split at h
  ·rename_i hr
   rcases List.mem_cons.1 h with rfl|h
   ·exact⟨0,rfl,rfl,hr⟩
   ·exact go h
  ·exact go h
theorem td{α:Type}{Q:α->Prop}:∀{l:List α},D1 l Q->∀x∈l,Q x
 |[],_,x,hx=>by simp at hx
 |[y],h,x,hx=>by simp at hx;subst hx;exact h
 |y::z::r,h,x,hx=>by
  rcases List.mem_cons.1 hx with rfl|hx
  ·exact h.1
  ·exact td h.2 x hx
theorem iT(O:List zk)(w:World):dC O w↔∀b∈O,ao w b.ad b.cs:=by
 induction O with
 |nil=>simp[dC]
 |cons b r ih=>simp[dC,ih]
theorem eR(m:Nat):∀(O:List zk) (b:zk),b∈fj m O↔b∈O/\m.testBit b.ix=false
 |[],b=>by simp[fj]
 |x::r,b=>by
  simp only[fj]
  split
  ·rename_i h
   rw[eR m r b]
   simp only[List.mem_cons]
   constructor
   ·rintro⟨h1,h2⟩;exact⟨.inr h1,h2⟩
   ·rintro⟨rfl|h1,h2⟩
    ·rw[h]at h2;cases h2
    ·exact⟨h1,h2⟩
  ·rename_i h
   simp only[List.mem_cons,eR m r b]
   constructor
   ·rintro(rfl|⟨h1,h2⟩)
    ·exact⟨.inl rfl,h⟩
    ·exact⟨.inr h1,h2⟩
   ·rintro⟨rfl|h1,h2⟩
    ·exact .inl rfl
    ·exact .inr ⟨h1,h2⟩
def Fo(O:List zk)(O':List (Nat×(World->Prop))):Prop:=∀x∈O',∀w,(∀b∈O,b.ix=x.1->ao w b.ad b.cs)->x.2 w
theorem AM{E:En}{ov:Ov}{H:Hp}{i:Nat}{o:Oper}{v:V}:∀b∈jH E ov H i o v,b.ix=i:=by
 intro b hb
 unfold jH at hb
 split at hb
 ·split at hb
  ·simp at hb;rw[hb]
  ·simp at hb;rw[hb]
  ·simp at hb
 ·simp at hb
theorem mg.set{ops:Array Oper}{done:List Nat}{L:Array Bool}(h:mg ops done L){i:Nat}(hi:i<ops.size):mg ops (i::done) (L.setIfInBounds i true):=by
 refine⟨by simpa using h.1,fun j hj=>?_⟩
 by_cases hij:i=j
 ·subst hij
  have:i<L.size:=by rw[h.1];exact hi
  simp[this]
 ·rw[getD_set_ne true hij,h.2 j hj]
  simp[Ne.symm hij]
theorem ug(hP:wV P){E:En}{ops:Array Oper}{rho0:List Nat}{k:Ov->Hp->Prop}{Q:Exit->Act->World->Prop}(hok:r9 ops=true)
 (hQ:∀ov H a w,k ov H->bD E H w->ct E (ah E H) ov a->(∃ext,H.rho=rho0++ext)->Q .normal a w)(hQp:∀c a w,¬Q (.panic c) a w):
 ∀(n:Nat) (done:List Nat) (O:List zk) (ov:Ov) (H:Hp) (L:Array Bool) (O':List (Nat×(World->Prop))) (a:Act) (w:World),
  qZ P E ops.toList (eO ops.toList []) n done O ov H k->mg ops done L->AW ops L->bD E H w->ct E (ah E H) ov a->(∃ext,H.rho=rho0++ext)->
  (∀b∈O,ao w b.ad b.cs)->Fo O O'->Rg P ops (eO ops.toList []) Q n L O' a w:=by
 obtain⟨hm,hap,hsel⟩:=sS hok
 have hback:∀(i:Nat) (o:Oper),ops[i]?=some o->∀e∈o.after,jK e=true->e.on<i:=by
  intro i o ho e he hb
  unfold r9 at hok
  split at hok
  ·rename_i h1 _ _
   have:=jS h1 i o (by simpa using ho) e he hb
   omega
  ·cases hok
 have hnone:∀{done L},mg ops done L->dR done 0 ops.toList=[]->Region.ready .any ops L=[]:=by
  intro done L hd h
  rw[List.eq_nil_iff_forall_not_mem]
  intro j hj
  obtain⟨_,o,ho,_⟩:=mem_ready.1 hj
  have:=j7 (done:=done) (k:=0) (l:=ops.toList) j o (by simpa using ho) (by rw[Nat.zero_add];exact(jl hback hd ho).2 hj)
  rw[h]at this
  cases this
 intro n
 induction n with
 |zero =>
  intro done O ov H L O' a w h hd hdn hH hT he hO hp
  simp only[qZ]at h
  split at h
  ·rename_i hr
   exact⟨hnone hd hr,hQ ov H a w h hH hT he⟩
  ·exact h.elim
 |succ n ih =>
  intro done O ov H L O' a w h hd hdn hH hT he hO hp
  simp only[qZ]at h
  split at h
  ·
   rename_i i o hq
   obtain⟨m,rfl,ho,hqq,hr⟩:=kE hq
   rw[Nat.zero_add]at h hr
   have ho':ops[m]?=some o:=by simpa using ho
   have hlt:=(Array.getElem?_eq_some_iff.1 ho').1
   have hready:=(jl hback hd ho').1 hr
   rcases oh hT h with ⟨h1,ov',h2,h3⟩|⟨h1,ov',h2,h3⟩
   ·obtain⟨v,H',y,h4,h5,h6,h7,h8,h9⟩:=py m h3 hH h2
    have er:=bu (E:=E) h6
    refine wA hm hap hsel ho' (fun c a w hc=>absurd hc (hQp _ _ _)) (S:=fun w'=>dC (jH E ov' H' m o v) w') n L O' a w hd.1 hdn hready (.inl ⟨h1,h9⟩) h8 ?_ ?_
    ·exact fun x hx=>hp x hx w fun b hb _=>hO b hb
    ·refine ih _ _ _ H' _ _ _ w h4 (hd.set hlt) (iX hdn hready) h5 (by rw[er];exact h3.put o.dst h7) (by rw[h6];exact he) ?_ ?_
     ·intro b hb
      rcases List.mem_append.1 hb with hb|hb
      ·exact(iT _ _).1 h8 b hb
      ·exact hO b hb
     ·intro x hx w' hw'
      rcases List.mem_cons.1 hx with rfl|hx
      ·show dC _ w'
       rw[iT]
       exact fun b hb=>hw' b (List.mem_append_left _ hb) (AM b hb)
      ·exact hp x hx w' fun b hb hbx=>hw' b (List.mem_append_right _ hb) hbx
   ·refine wA hm hap hsel ho' (fun c a w hc=>absurd hc (hQp _ _ _)) (S:=fun _=>True) n L O' a w hd.1 hdn hready (.inr ⟨h1,rfl⟩) trivial ?_ ?_
    ·exact fun x hx=>hp x hx w fun b hb _=>hO b hb
    ·refine ih _ _ _ H _ _ _ w h2 (hd.set hlt) (iX hdn hready) hH (h3.put o.dst (y:=undef) ⟨by simp,rfl⟩) he hO ?_
     intro x hx w' hw'
     rcases List.mem_cons.1 hx with rfl|hx
     ·trivial
     ·exact hp x hx w' hw'
  ·rename_i hq
   cases hrs:dR done 0 ops.toList with
   |nil =>
    rw[hrs]at h
    have hr0:=hnone hd hrs
    refine⟨fun _=>hQ ov H a w h hH hT he,fun j hj=>?_⟩
    rw[hr0]at hj
    cases hj
   |cons x0 rs0 =>
    rw[hrs]at h
    dsimp only at h
    rw[<-hrs]at h
    refine⟨fun h0=>?_,fun j hj=>?_⟩
    ·have hx:x0∈dR done 0 ops.toList:=by rw[hrs];simp
     obtain⟨m,h1,h2,h3⟩:=kP hx
     rw[Nat.zero_add]at h1
     rw[h1]at h3
     have:=(jl hback hd (by simpa using h2)).1 h3
     rw[h0]at this
     cases this
    ·obtain⟨_,o,ho,_⟩:=mem_ready.1 hj
     have hlt:=(Array.getElem?_eq_some_iff.1 ho).1
     have hrj:BT done j o=true:=(jl hback hd ho).2 hj
     have hmem:=j7 (done:=done) (k:=0) (l:=ops.toList) j o (by simpa using ho) (by rw[Nat.zero_add];exact hrj)
     rw[Nat.zero_add]at hmem
     have hnq:jM P o.op=false:=mj hq j o (by simpa using ho) (by rw[Nat.zero_add];exact hrj)
     have h1:=td h _ hmem
     dsimp only at h1
     unfold wpOp
     simp only[ho]
     rcases oh hT h1 with ⟨hw,ov',h2,h3⟩|⟨hw,ov',h2,h3⟩
     ·rw[if_pos hw]
      left
      refine Oper.wp_mono ?_ (pI hP h3 hH h2)
      rintro a' w' ⟨v,H',y,h4,h5,⟨ext,h6⟩,rfl,h7,h8⟩
      have hT':ct E (ah E H') (kR o.dst v ov') (a.put o.dst y):=by
       have:=h3.append ext
       rw[<-kq (E:=E) h6]at this
       exact this.put o.dst h7
      have hext:∃ext,H'.rho=rho0++ext:=by
       obtain⟨e0,he0⟩:=he
       exact⟨e0++ext,by rw[h6,he0,List.append_assoc]⟩
      have hst:∃H'',qZ P E ops.toList (eO ops.toList []) n (j::done) (fj ((eO ops.toList []).getD j 0) O) (kR o.dst v ov') H'' k/\bD E H'' w'/\H''.rho=H'.rho/\
       ∀b∈fj ((eO ops.toList []).getD j 0) O,ao w' b.ad b.cs:=by
       unfold EF at h4
       split at h4
       ·rename_i hn
        exact⟨H',h4,h5,rfl,fun b hb=>(hO b ((eR _ _ _).1 hb).1).kp (h8 hn)⟩
       ·rename_i hn hz
        exact⟨H',h4,h5,rfl,fun b hb=>by rw[hz]at hb;simp at hb⟩
       ·obtain⟨H'',h9,h10,rfl,h12,_⟩:=bA h4 h5
        exact⟨H'',h9.2,h10,h12,(iT _ _).1 h9.1⟩
      obtain⟨H'',h9,h10,h11,h12⟩:=hst
      have er2:=bu (E:=E) h11
      refine⟨fun x hx hb=>hp x hx w' fun b hbO hbx=>?_,?_⟩
      ·exact h12 b ((eR _ _ _).2 ⟨hbO,by rw[hbx];exact hb⟩)
      ·refine ih _ _ _ H'' _ _ _ w' h9 (hd.set hlt) (iX hdn hj) h10 (by rw[er2];exact hT') (by rw[h11];exact hext) h12 ?_
       intro x hx w'' hw''
       rw[List.mem_filter]at hx
       exact hp x hx.1 w'' fun b hbO hbx=>hw'' b ((eR _ _ _).2 ⟨hbO,by rw[hbx];simpa using hx.2⟩) hbx
     ·rw[if_neg (by simp[hw])]
      refine⟨fun x hx _=>hp x hx w fun b hb _=>hO b hb,?_⟩
      refine ih _ _ _ H _ _ _ w h2 (hd.set hlt) (iX hdn hj) hH (h3.put o.dst (y:=undef) ⟨by simp,rfl⟩) he hO ?_
      intro x hx
      exact hp x (List.mem_filter.1 hx).1
end Go.Vc
namespace Go.Vc
open Go
variable {P:Program}
def kS(ρ:List Nat)(c:C):C :=
 match c.den ρ with
 |.bool b=>.sb b
 |.pointer a=>.pt a
 |x=>.v x
theorem nN(ρ σ:List Nat)(c:C):(kS ρ c).den σ=c.den ρ:=by
 unfold kS
 split
 ·rename_i h;exact h.symm
 ·rename_i h;exact h.symm
 ·rfl
theorem v7(ρ:List Nat)(c:C)(n:Nat):(kS ρ c).bd n:=by
 unfold kS
 split<;>trivial
theorem iu(ρ σ:List Nat)(l:List C):bJ σ (l.map (kS ρ))=bJ ρ l:=by
 rw[di,di,List.map_map]
 exact List.map_congr_left fun c _=>nN ρ σ c
theorem qr(ρ:List Nat)(l:List C)(n:Nat):lj n (l.map (kS ρ)):=by
 intro c hc
 obtain⟨x,_,rfl⟩:=List.mem_map.1 hc
 exact v7 ρ x n
def rG(ρ:List Nat):V->V
 |.a (.c c)=>.a (.c (kS ρ c))
 |.a (.agg l)=>.a (.agg (l.map (kS ρ)))
 |v=>v
def qJ(ρ:List Nat)(o:Ov):Ov:=o.map fun x=>(x.1,rG ρ x.2)
def lp(ρ:List Nat)(h:List (Nat×TypeId×List C)):List (Nat×TypeId×List C):=h.map fun x=>(x.1,x.2.1,x.2.2.map (kS ρ))
theorem vv{x y:CK}(h:DU x y=true):x=y:=by
 cases x<;>cases y<;>simp only[DU,Bool.false_eq_true]at h ⊢
 rw[kX h]
theorem ox:∀{l m:List CK},yT l m=true->l=m
 |[],[],_=>rfl
 |[],_::_,h=>by simp[yT]at h
 |_::_,[],h=>by simp[yT]at h
 |x::r,y::s,h=>by
  simp only[yT]at h
  split at h
  ·rename_i h1
   rw[vv h1,ox h]
  ·cases h
theorem iO{l m:List C}(h:sf l m=true):∃k,iS l=some k/\iS m=some k:=by
 unfold sf at h
 split at h
 ·rename_i k k' h1 h2
  rw[ox h]at h1
  exact⟨k',h1,h2⟩
 ·cases h
theorem gJ(ρ:List Nat):∀{ks:List CK} {Q:List C->Prop} {cs:List C},xW ks Q->iS cs=some ks->Q (cs.map (kS ρ))
 |ks,Q,[],h,hk=>by
  simp only[iS,Option.some.injEq]at hk
  subst hk
  exact h
 |ks,Q,c::r,h,hk=>by
  simp only[iS]at hk
  split at hk
  ·rename_i k l hc hr
   simp only[Option.some.injEq]at hk
   subst hk
   have key:∀c',kS ρ c=c'->(∀{Q':List C->Prop},xW l Q'->Q' (r.map (kS ρ))):=fun _ _ {Q'} h'=>gJ ρ h' hr
   unfold wg at hc
   split at hc<;>simp only[Option.some.injEq,reduceCtorEq]at hc<;>subst hc<;>simp only[xW]at h
   all_goals (simp only[List.map_cons])
   all_goals first|exact gJ ρ (h _) hr|exact gJ ρ (h _ _ _) hr
  ·cases hk
theorem B4(ρ:List Nat){v v':V}{Q:V->Prop}(h:E9 v Q)(hs:jF v v'=true):Q (rG ρ v'):=by
 unfold jF at hs
 split at hs
 ·rename_i c c'
  obtain⟨k,h1,h2⟩:=iO hs
  simp only[E9]at h
  have hk:∃k0,wg c=some k0/\k=[k0]:=by
   simp only[iS]at h1
   split at h1
   ·rename_i k0 l hc hl
    simp only[Option.some.injEq]at hl h1
    subst hl h1
    exact⟨k0,hc,rfl⟩
   ·cases h1
  obtain⟨k0,hk0,rfl⟩:=hk
  rw[hk0]at h
  exact gJ ρ h h2
 ·rename_i l m
  obtain⟨k,h1,h2⟩:=iO hs
  simp only[E9,h1]at h
  exact gJ ρ h h2
 ·cases hs
theorem jx(ρ:List Nat){E:En}{ov:Ov}:∀{live:List Nat} {Q:Ov->Prop} {xs:Ov},BV E ov live Q->eV (aQ E ov live) xs=true->Q (qJ ρ xs)
 |[],Q,xs,h,hs=>by
  cases xs with
  |nil=>exact h
  |cons x r=>simp[aQ,eV]at hs
 |t::live,Q,xs,h,hs=>by
  cases xs with
  |nil=>simp[aQ,eV]at hs
  |cons x r =>
   obtain⟨t',v'⟩:=x
   simp only[aQ,eV]at hs
   split at hs
   ·rename_i h1 h2
    have:=Nat.eq_of_beq_eq_true h1
    subst this
    exact jx (Q:=fun z=>Q ((t,rG ρ v')::z)) ρ (B4 (Q:=fun v=>BV E ov live fun z=>Q ((t,v)::z)) ρ h h2) hs
   ·cases hs
theorem ja(ρ:List Nat):∀{hv:List (Nat×TypeId×List C)} {Q:List (Nat×TypeId×List C)->Prop} {hs:List (Nat×TypeId×List C)},xw hv Q->il hv hs=true->Q (lp ρ hs)
 |[],Q,hs,h,hk=>by
  cases hs with
  |nil=>exact h
  |cons x r=>simp[il]at hk
 |(i,T,l)::hv,Q,hs,h,hk=>by
  cases hs with
  |nil=>simp[il]at hk
  |cons x r =>
   obtain⟨j,U,m⟩:=x
   simp only[il]at hk
   split at hk
   ·rename_i h1 h2 h3
    have e1:=Nat.eq_of_beq_eq_true h1
    have e2:=Nat.eq_of_beq_eq_true h2
    subst e1 e2
    obtain⟨k,h4,h5⟩:=iO h3
    simp only[xw,h4]at h
    exact ja (Q:=fun z=>Q ((i,T,m.map (kS ρ))::z)) ρ (gJ (Q:=fun l=>xw hv fun z=>Q ((i,T,l)::z)) ρ h h5) hk
   ·cases hk
theorem nq:∀{h g:List (Nat×TypeId×List C)},il h g=true->g.map (·.1)=h.map (·.1)
 |[],[],_=>rfl
 |[],_::_,h=>by simp[il]at h
 |_::_,[],h=>by simp[il]at h
 |(i,T,l)::r,(j,U,m)::s,h=>by
  simp only[il]at h
  split at h
  ·rename_i h1 _ _
   have:=Nat.eq_of_beq_eq_true h1
   simp[this,nq h]
  ·cases h
theorem Bi{v v':V}(h:jF v v'=true):v'≠.j/\∀l,v'≠.tup l:=by
 unfold jF at h
 split at h
 ·simp
 ·simp
 ·cases h
theorem Ao(ρ σ:List Nat){v:V}{u:V}(h:jF u v=true):(rG ρ v).den σ=v.den ρ:=by
 unfold jF at h
 split at h
 ·simp only[rG,V.den,A.den,nN]
 ·simp only[rG,V.den,A.den,iu]
 ·cases h
theorem oo(ρ σ:List Nat){v:V}{u:V}{y:Value}(h:jF u v=true)(hr:v.rel ρ y):(rG ρ v).rel σ y:=by
 unfold jF at h
 split at h
 ·exact⟨v7 _ _ _,by rw[hr.2];simp only[A.den,nN]⟩
 ·exact⟨qr _ _ _,by rw[hr.2];simp only[A.den,iu]⟩
 ·cases h
theorem iE(ρ σ:List Nat)(E:En)(ov:Ov):∀{live:List Nat} {o:Ov},eV o (aQ E ov live)=true->gV σ (qJ ρ (aQ E ov live))=gV ρ (aQ E ov live)
 |[],_,_=>rfl
 |t::live,o,h=>by
  cases o with
  |nil=>simp[aQ,eV]at h
  |cons x r =>
   obtain⟨t',v'⟩:=x
   simp only[aQ,eV]at h
   split at h
   ·rename_i h1 h2
    simp only[aQ,qJ,List.map_cons,gV,Ao ρ σ h2]
    congr 1
    exact iE ρ σ E ov h
   ·cases h
theorem lE{E:En}{ρ:List Nat}{ov:Ov}{a:Act}(hT:ct E ρ ov a):∀{live:List Nat} {o:Ov},eV o (aQ E ov live)=true->
 gV ρ (aQ E ov live)=live.map (fun t=>a.tmps.getD t undef)
 |[],_,_=>rfl
 |t::live,o,h=>by
  cases o with
  |nil=>simp[aQ,eV]at h
  |cons x r =>
   obtain⟨t',v'⟩:=x
   simp only[aQ,eV]at h
   split at h
   ·rename_i h1 h2
    simp only[aQ,gV,List.map_cons]
    have hok:=Bi h2
    have hlt:=ne (E:=E) (ov:=ov) (t:=t) rfl hok.1
    rw[lE hT h]
    congr 1
    have hr:=hT.rel t hlt
    exact(V.rel_den hr (by cases hv:fO E ov t<;>simp_all[cP])).symm
   ·cases h
theorem ko{E:En}{ov:Ov}:∀{live:List Nat} {o:Ov},eV o (aQ E ov live)=true->∀t∈live,∃u,jF u (fO E ov t)=true
 |[],_,_,t,ht=>by simp at ht
 |t0::live,o,h,t,ht=>by
  cases o with
  |nil=>simp[aQ,eV]at h
  |cons x r =>
   obtain⟨t',v'⟩:=x
   simp only[aQ,eV]at h
   split at h
   ·rename_i h1 h2
    rcases List.mem_cons.1 ht with rfl|ht
    ·exact⟨v',h2⟩
    ·exact ko h t ht
   ·cases h
theorem ju{E:En}{ov:Ov}{ρ:List Nat}:∀{live:List Nat} {t:Nat} {v:V},ce (qJ ρ (aQ E ov live)) t=some v->t∈live/\v=rG ρ (fO E ov t)
 |[],t,v,h=>by simp[aQ,qJ,ce]at h
 |t0::live,t,v,h=>by
  simp only[aQ,qJ,List.map_cons,ce]at h
  split at h
  ·rename_i hb
   have:=Nat.eq_of_beq_eq_true hb
   subst this
   simp only[Option.some.injEq]at h
   exact⟨by simp,h.symm⟩
  ·obtain⟨h1,h2⟩:=ju (ρ:=ρ) (E:=E) (ov:=ov) h
   exact⟨by simp[h1],h2⟩
theorem mV{E:En}{ov:Ov}:∀{live:List Nat} {t:Nat} {v:V},ce (aQ E ov live) t=some v->t∈live/\v=fO E ov t
 |[],t,v,h=>by simp[aQ,ce]at h
 |t0::live,t,v,h=>by
  simp only[aQ,ce]at h
  split at h
  ·rename_i hb
   have:=Nat.eq_of_beq_eq_true hb
   subst this
   simp only[Option.some.injEq]at h
   exact⟨by simp,h.symm⟩
  ·obtain⟨h1,h2⟩:=mV (E:=E) (ov:=ov) h
   exact⟨by simp[h1],h2⟩
theorem gF(E:En)(ov:Ov)(out:List Nat):∀(l:List V) (k t:Nat),t<l.length->(oq E ov out k l).getD t .j=if k+t∈out then .j else (ce ov (k+t)).getD (l.getD t .j)
 |[],_,t,h=>by simp at h
 |v::r,k,0,_=>by
  simp only[oq,List.getD_cons_zero,Nat.add_zero]
  cases hm:jB k out with
  |true=>rw[fI]at hm;simp[hm]
  |false =>
   rw[fC]at hm
   simp only[hm,if_false]
   cases ce ov k<;>rfl
 |v::r,k,t+1,h=>by
  simp only[oq,List.getD_cons_succ]
  rw[gF E ov out r (k+1) t (by simpa using h),show k+1+t=k+(t+1) from by omega]
theorem li(E:En)(ov:Ov)(out:List Nat):∀(l:List V) (k:Nat),(oq E ov out k l).length=l.length
 |[],_=>rfl
 |v::r,k=>by simp[oq,li E ov out r (k+1)]
theorem fT{E:En}{ov:Ov}{t:Nat}(h:t<E.n):fO E ov t=(ce ov t).getD (E.base.getD t .j):=by
 have:Nat.blt t E.n=true:=by simp[Nat.blt_eq,h]
 simp only[fO,this]
 cases ce ov t<;>rfl
theorem mS{α:Type}:∀(l m:List (Nat×α)) (t:Nat),ce (l++m) t=(ce l t).or (ce m t)
 |[],m,t=>by simp[ce]
 |(k,v)::r,m,t=>by
  simp only[List.cons_append,ce]
  split
  ·rfl
  ·exact mS r m t
theorem pJ:∀(l:List Nat) (t:Nat),ce (tL l) t=if t∈l then some .j else none
 |[],t=>by simp[tL,ce]
 |k::r,t=>by
  simp only[tL,ce]
  split
  ·rename_i h;have:=Nat.eq_of_beq_eq_true h;simp[this]
  ·rename_i h;have:=Nat.ne_of_beq_eq_false h;rw[pJ r t];simp[Ne.symm this]
theorem mQ{l:List Nat}:∀{ov:Ov},nI l ov=true->∀t v,ce ov t=some v->t∈l
 |[],_,t,v,h=>by simp[ce]at h
 |(k,u)::r,hk,t,v,h=>by
  simp only[nI]at hk
  split at hk
  ·rename_i hm
   rw[fI]at hm
   simp only[ce]at h
   split at h
   ·rename_i hb;have:=Nat.eq_of_beq_eq_true hb;subst this;exact hm
   ·exact mQ hk t v h
  ·cases hk
theorem pw{E:En}{ρ:List Nat}{ov:Ov}{a:Act}{l:gC}{H:Hp}(hT:ct E ρ ov a){xs:Ov}
 (hx:∀t v,ce xs t=some v->t<E.n->v.rel ρ (a.tmps.getD t undef)):ct (aw E ov H l) ρ xs a:=by
 refine⟨hT.df,hT.size,by simp only[aw,li];exact hT.bl,fun t ht=>?_⟩
 have ht':t<E.n:=ht
 rw[fT ht]
 cases hl:ce xs t with
 |some v=>exact hx t v hl ht'
 |none =>
  simp only[Option.getD_none,aw]
  rw[gF E ov _ _ _ _ (by rw[hT.bl];exact ht'),Nat.zero_add]
  split
  ·trivial
  ·have:=hT.rel t ht'
   rw[fT ht']at this
   exact this
theorem nS{E:En}{ρ σ:List Nat}{ov ov':Ov}{a a':Act}{l:gC}{H:Hp}(hT:ct E ρ ov a)(hT':ct (aw E ov H l) σ ov' a'):ct E σ (iw ov l ov') a':=by
 refine⟨hT'.df,hT'.size,hT.bl,fun t ht=>?_⟩
 have hr:=hT'.rel t ht
 rw[fT (E:=aw E ov H l) ht]at hr
 rw[fT ht]
 simp only[iw,mS,pJ]
 cases hl:ce ov' t with
 |some v =>
  rw[hl]at hr
  simpa using hr
 |none =>
  rw[hl]at hr
  simp only[Option.getD_none,aw]at hr
  rw[gF E ov _ _ _ _ (by rw[hT.bl];exact ht),Nat.zero_add]at hr
  by_cases hm:t∈l.live++l.junk
  ·simp only[hm,if_true]
   trivial
  ·rw[if_neg hm]at hr
   simp only[hm,if_false,Option.none_or]
   exact hr
theorem nl{E:En}{ρ σ:List Nat}{ov ov' xs:Ov}{a a':Act}{l:gC}{H:Hp}(hT:ct E ρ ov a)(hρ:∃ext,σ=ρ++ext)(hT':ct (aw E ov H l) σ ov' a')
 (hk:nI (l.live++l.junk) ov'=true)(hx:∀t v,ce xs t=some v->t<E.n->v.rel ρ (a'.tmps.getD t undef)):ct (aw E ov H l) ρ xs a':=by
 obtain⟨ext,rfl⟩:=hρ
 refine⟨hT'.df,hT'.size,hT'.bl,fun t ht=>?_⟩
 have ht':t<E.n:=ht
 rw[fT ht]
 cases hl:ce xs t with
 |some v=>exact hx t v hl ht'
 |none =>
  simp only[Option.getD_none,aw]
  rw[gF E ov _ _ _ _ (by rw[hT.bl];exact ht'),Nat.zero_add]
  split
  ·trivial
  ·rename_i hm
   have hn:ce ov' t=none:=by
    cases hv:ce ov' t with
    |none=>rfl
    |some v=>exact absurd (mQ hk t v hv) hm
   have hr:=hT'.rel t ht
   rw[fT (E:=aw E ov H l) ht,hn]at hr
   simp only[Option.getD_none,aw]at hr
   rw[gF E ov _ _ _ _ (by rw[hT.bl];exact ht'),Nat.zero_add,if_neg hm]at hr
   have h0:=hT.rel t ht'
   rw[fT ht']at h0
   generalize (ce ov t).getD (E.base.getD t V.j)=v at *
   cases v with
   |a x=>exact⟨h0.1,by rw[hr.2,A.den_append h0.1]⟩
   |tup ys =>
    refine⟨h0.1,?_⟩
    rw[hr.2,gr,gr]
    congr 2
    exact List.map_congr_left fun c hc=>A.den_append (h0.1 c hc)
   |j=>trivial
end Go.Vc
namespace Go.Vc
open Go
variable {P:Program}
theorem sZ{ρ:List Nat}{h:List (Nat×TypeId×List C)}{x:Nat×TypeId×List C}(hx:x∈lp ρ h):∃y∈h,x.1=y.1/\x.2.1=y.2.1/\x.2.2=y.2.2.map (kS ρ):=by
 obtain⟨y,hy,rfl⟩:=List.mem_map.1 hx
 exact⟨y,hy,rfl,rfl,rfl⟩
theorem jw(ρ:List Nat)(h:List (Nat×TypeId×List C)):(lp ρ h).map (·.1)=h.map (·.1):=by
 simp[lp,List.map_map,Function.comp_def]
theorem iQ(ρ σ:List Nat):∀(h:List (Nat×TypeId×List C)),ir σ (lp ρ h)=ir ρ h
 |[]=>rfl
 |(i,T,l)::r=>by
  simp only[lp,List.map_cons,ir,iu]
  congr 1
  exact iQ ρ σ r
theorem lY{Ea Eb:En}{Ha:Hp}{w:World}{hvs:List (Nat×TypeId×List C)}{ext:List Nat}(hs:bD Ea Ha w)(hρ:ah Ea Ha=Eb.rho++ext)
 (hro:∀x∈Eb.ro,x∈bT Ea Ha/\x.1<Eb.rho.length/\lj Eb.rho.length x.2.2)
 (hhv:∀x∈hvs,x.1<Eb.rho.length/\lj Eb.rho.length x.2.2/\∃cs,(x.1,x.2.1,cs)∈bT Ea Ha/\bJ Eb.rho x.2.2=bJ (ah Ea Ha) cs)
 (hnd:((hvs++Eb.ro).map (·.1)).Nodup):bD Eb (bp hvs w) w:=by
 have er:ah Eb (bp hvs w)=Eb.rho:=by simp[ah,bp]
 refine⟨KpL.refl _ _,?_,?_,?_,fun _=>rfl,?_,hnd,?_,Nat.le_refl _,by simp[bp]⟩
 ·rw[er]
  rw[cO]
  intro i T cs hm
  have hk:=(cO _ _ _).1 hs.kn
  rcases List.mem_append.1 hm with h|h
  ·obtain⟨h1,h2,cs',h3,h4⟩:=hhv _ h
   have:=hk _ _ _ h3
   rw[hρ,dH h1]at this
   rw[hρ]at h4
   rw[this,<-h4]
  ·obtain⟨h1,h2,h3⟩:=hro _ h
   have:=hk _ _ _ h1
   rw[hρ,dH h2,fV h3]at this
   exact this
 ·rw[er]
  have:=hs.nd
  rw[hρ]at this
  exact(List.nodup_append.1 this).1
 ·rw[er]
  intro b hb
  exact hs.lt b (by rw[hρ];exact List.mem_append_left _ hb)
 ·rw[er]
  intro x hx
  rcases List.mem_append.1 hx with h|h
  ·obtain⟨h1,h2,_⟩:=hhv _ h;exact⟨h1,h2⟩
  ·obtain⟨_,h1,h2⟩:=hro _ h;exact⟨h1,h2⟩
 ·rw[er]
  intro i b hi hb
  have:=(List.getElem?_eq_some_iff.1 hb).1
  simp only[bp]at hi
  omega
theorem pU{H:Hp}:∀{l:List Nat},nM H l=true->∀i∈l,∃x,ce H.hp i=some x
 |[],_,i,hi=>by simp at hi
 |k::r,h,i,hi=>by
  simp only[nM]at h
  split at h
  ·rename_i x hx
   rcases List.mem_cons.1 hi with rfl|hi
   ·exact⟨x,hx⟩
   ·exact pU h i hi
  ·cases h
theorem vL{E:En}{ov:Ov}{H:Hp}{l:gC}{w:World}(hs:bD E H w):∀x∈(aw E ov H l).ro,x∈bT E H/\x.1<(ah E H).length/\lj (ah E H).length x.2.2:=by
 intro x hx
 have hk:x∈bT E H:=by
  rcases List.mem_append.1 hx with h|h
  ·exact List.mem_append_left _ (ms _ _ x h)
  ·exact List.mem_append_right _ h
 exact⟨hk,hs.bdk x hk⟩
theorem D6{E:En}{ov:Ov}{H:Hp}{l:gC}{w:World}(hs:bD E H w)(hok:nM H l.hv=true):∀i∈l.hv,i<(ah E H).length/\∀x∈(aw E ov H l).ro,x.1≠i:=by
 intro i hi
 obtain⟨x,hx⟩:=pU hok i hi
 have hm:(i,x)∈bT E H:=List.mem_append_left _ (fF hx)
 refine⟨(hs.bdk _ hm).1,fun y hy he=>?_⟩
 rcases List.mem_append.1 hy with h|h
 ·exact(mz.1 h).2 (by rw[he];exact hi)
 ·have hids:=hs.ids
  simp only[bT,List.map_append]at hids
  exact(List.nodup_append.1 hids).2.2 i (List.mem_map.2 ⟨_,fF hx,rfl⟩) y.1 (List.mem_map.2 ⟨y,h,rfl⟩) he.symm
theorem nQ{E:En}{ov:Ov}{H:Hp}{l:gC}{w:World}(hs:bD E H w):(((aH l.hv H.hp)++(aw E ov H l).ro).map (·.1)).Nodup:=by
 have hids:=hs.ids
 simp only[bT,List.map_append]at hids
 obtain⟨h1,h2,h3⟩:=List.nodup_append.1 hids
 simp only[aw,List.map_append]
 rw[List.nodup_append]
 refine⟨((ii _ _).map _).nodup h1,?_,?_⟩
 ·rw[List.nodup_append]
  refine⟨((eY _ _).map _).nodup h1,h2,fun a ha b hb=>?_⟩
  obtain⟨x,hx,rfl⟩:=List.mem_map.1 ha
  exact h3 _ (List.mem_map.2 ⟨x,ms _ _ x hx,rfl⟩) b hb
 ·intro a ha b hb he
  obtain⟨x,hx,rfl⟩:=List.mem_map.1 ha
  have hx':=mw.1 hx
  rcases List.mem_append.1 hb with hb|hb
  ·obtain⟨y,hy,rfl⟩:=List.mem_map.1 hb
   exact(mz.1 hy).2 (by rw[<-he];exact hx'.2)
  ·exact h3 _ (List.mem_map.2 ⟨x,hx'.1,rfl⟩) b hb he
theorem uj{E:En}{ov:Ov}{H:Hp}{l:gC}{w:World}(hs:bD E H w):bD (aw E ov H l) (bp (aH l.hv H.hp) w) w:=by
 refine lY (ext:=[]) hs (by simp[aw]) (vL hs) ?_ (nQ hs)
 intro x hx
 have hm:x∈bT E H:=List.mem_append_left _ (i6 _ _ x hx)
 exact⟨(hs.bdk x hm).1,(hs.bdk x hm).2,x.2.2,hm,rfl⟩
theorem oH{E:En}{ov:Ov}{H:Hp}{l:gC}{w:World}(hs:bD E H w):
 bD (aw E ov H l) (bp (lp (ah E H) (aH l.hv H.hp)) w) w:=by
 refine lY (ext:=[]) hs (by simp[aw]) (vL hs) ?_ (by rw[List.map_append,jw,<-List.map_append];exact nQ hs)
 intro x hx
 obtain⟨y,hy,h1,h2,h3⟩:=sZ hx
 have hm:y∈bT E H:=List.mem_append_left _ (i6 _ _ y hy)
 refine⟨by rw[h1];exact(hs.bdk y hm).1,by rw[h3];exact qr _ _ _,y.2.2,by rw[h1,h2];exact hm,?_⟩
 rw[h3];exact iu _ _ _
theorem nO{E:En}{ov:Ov}{H H':Hp}{l:gC}{w0 w:World}(hs0:bD E H w0)(hok:nM H l.hv=true)(hs:bD (aw E ov H l) H' w):
 bD (aw E ov H l) (bp (lp (ah (aw E ov H l) H') (aH l.hv H'.hp)) w) w:=by
 refine lY (Eb:=aw E ov H l) (ext:=H'.rho) hs rfl ?_ ?_ ?_
 ·intro x hx
  obtain⟨_,h2,h3⟩:=vL hs0 x hx
  exact⟨List.mem_append_right _ hx,h2,h3⟩
 ·intro x hx
  obtain⟨y,hy,h1,h2,h3⟩:=sZ hx
  have hy':=mw.1 hy
  have hm:y∈bT (aw E ov H l) H':=List.mem_append_left _ hy'.1
  refine⟨by rw[h1];exact(D6 (ov:=ov) hs0 hok _ hy'.2).1,by rw[h3];exact qr _ _ _,y.2.2,by rw[h1,h2];exact hm,?_⟩
  rw[h3];exact iu _ _ _
 ·rw[List.map_append,jw,<-List.map_append]
  have hids:=hs.ids
  simp only[bT]at hids
  exact(((ii l.hv H'.hp).append (List.Sublist.refl _)).map _).nodup hids
theorem nW{E:En}{ov:Ov}{H H':Hp}{l:gC}{w0 w:World}(_hs0:bD E H w0)(hs:bD (aw E ov H l) H' w):bD E (cG H l H') w:=by
 have er:ah E (cG H l H')=ah (aw E ov H l) H':=by simp[ah,cG,aw]
 have ek:bT E (cG H l H')=bT (aw E ov H l) H':=by simp[bT,cG,aw]
 refine⟨by rw[er];exact hs.kp,by rw[er,ek];exact hs.kn,by rw[er];exact hs.nd,by rw[er];exact hs.lt,hs.cl,by rw[er,ek];exact hs.bdk,by rw[ek];exact hs.ids,?_,?_,by rw[er];exact hs.sb⟩
 ·rw[er]
  intro i b hi hb
  refine hs.old i b ?_ hb
  simp only[cG,aw,ah,List.length_append]at hi ⊢
  omega
 ·have:=hs.oldle
  simp only[cG,List.length_append]
  omega
theorem re{E:En}{w:World}{hvs:List (Nat×TypeId×List C)}(hs:bD E (bp hvs w) w):qy E.rho hvs w:=by
 have h1:ah E (bp hvs w)=E.rho:=by simp[ah,bp]
 have:=hs.kn
 rw[h1]at this
 exact this.sub fun x hx=>List.mem_append_left _ hx
def pE(ρ:List Nat):List Nat->World->List Value
 |[],_=>[]
 |i::r,w=>(match w.heap[ρ.getD i 0]? with
  |some (.cells c _ _)=>c.toList
  |_=>[])++pE ρ r w
theorem oa{ρ:List Nat}{w:World}:∀{hvs:List (Nat×TypeId×List C)},qy ρ hvs w->pE ρ (hvs.map (·.1)) w=ir ρ hvs
 |[],_=>rfl
 |(i,T,l)::r,h=>by
  have hk:=(cO _ _ _).1 h
  have h1:=hk i T l (by simp)
  have h2:qy ρ r w:=h.sub (fun x hx=>List.mem_cons_of_mem _ hx)
  simp only[List.map_cons,pE,h1,ir,oa h2]
theorem yM(hP:wV P):∀(c:Code) (E:En) (ov:Ov) (H:Hp) (K:Exit->Ov->Hp->Prop) (a:Act) (w:World),
 f8 P c E ov H K->bD E H w->ct E (ah E H) ov a->c.wp P (lO E H.rho K) a w:=by
 intro c
 induction c with
 |skip =>
  intro E ov H K a w h hH hT
  exact wp_skip ⟨ov,H,h,hH,hT,[],by simp⟩
 |region id ops draw =>
  intro E ov H K a w h hH hT
  cases draw with
  |false =>
   simp only[f8]at h
   split at h
   ·exact h.elim
   ·exact qv hP h hH hT
  |true =>
   simp only[f8]at h
   split at h
   ·rename_i hok
    refine wp_mono (Q:=fun e a w=>match e with|.normal=>lO E H.rho K .normal a w|_=>False) ?_ (fun e a w hq=>?_)
    ·refine wp_region_any hP.mixed (B0 (am:=eO ops.toList []) ops.size _ [] a _ ?_)
     have hH':bD E { H with clean:=false } { w with drawn:=w.drawn+1 } :=
      ⟨hH.kp.drew,(cO _ _ _).2 (fun i T cs hm=>(cO _ _ _).1 hH.kn i T cs hm),hH.nd,hH.lt,by simp,hH.bdk,hH.ids,hH.old,hH.oldle,hH.sb⟩
     have key:=ug hP (E:=E) (ops:=ops) (rho0:=H.rho) (k:=K .normal)
      (Q:=fun e a w=>match e with|.normal=>lO E H.rho K .normal a w|_=>False) hok
      (fun ov H a w h1 h2 h3 h4=>⟨ov,H,h1,h2,h3,h4⟩) (fun _ _ _ h=>h) ops.toList.length [] [] ov _ (Array.replicate ops.size false) [] a _ h
      ⟨by simp,fun j hj=>by simp[hj]⟩ (fun j oj hj hl=>by
       have:=(Array.getElem?_eq_some_iff.1 hj).1
       simp[this]at hl) hH' hT ⟨[],by simp⟩ (by simp) (by intro x hx;simp at hx)
     rw[show ops.toList.length=ops.size from by simp]at key
     exact key
    ·cases e<;>first|exact hq|exact hq.elim
   ·exact h.elim
 |seq x y ihx ihy =>
  intro E ov H K a w h hH hT
  simp only[f8]at h
  have lift:∀{r0:List Nat} {K':Exit->Ov->Hp->Prop} {e a w},(∃ext,r0=H.rho++ext)->lO E r0 K' e a w->lO E H.rho K' e a w:=by
   rintro r0 K' e a w ⟨ext,rfl⟩ ⟨ov,G,h1,h2,h3,ext',h4⟩
   exact⟨ov,G,h1,h2,h3,ext++ext',by rw[h4,List.append_assoc]⟩
  split at h
  ·
   refine wp_seq (wp_mono (ihx E ov H _ a w h hH hT) fun e a' w' hg=>?_)
   cases e with
   |normal =>
    obtain⟨ov',G,h1,h2,h3,h4⟩:=hg
    exact wp_mono (ihy E ov' G K a' w' h1 h2 h3) fun e a w hq=>lift h4 hq
   |exit i=>exact hg
   |goto l=>exact hg
   |ret=>exact hg
   |panic ch=>exact hg
   |outgrown=>exact hg
  ·rename_i l hl
   split at h
   ·rename_i hok hsO hsH
    obtain⟨J,hx,hy⟩:=h
    obtain⟨H1,h1,h2,rfl,h4,h5⟩:=bA hx hH
    have er:ah E H1=ah E H:=bu h4
    have hok1:nM H1 l.hv=true:=by
     have:∀(ls:List Nat),nM H ls=true->nM H1 ls=true:=by
      intro ls
      induction ls with
      |nil=>intro _;rfl
      |cons i r ih =>
       intro hh
       simp only[nM,h5]at hh ⊢
       split at hh
       ·exact ih hh
       ·cases hh
     exact this _ hok
    have hT1:ct E (ah E H1) ov a:=by rw[er];exact hT
    have hTb:ct (aw E ov H1 l) (ah E H1) (aQ E ov l.live) a:=pw hT1 fun t v hv ht=>by
     obtain⟨_,rfl⟩:=mV hv
     exact hT1.rel t ht
    have hHb:=uj (ov:=ov) (l:=l) h2
    have erb:ah (aw E ov H1 l) (bp (aH l.hv H1.hp) H1.w)=ah E H1:=by simp[ah,bp,aw]
    refine wp_seq (wp_mono (ihx _ _ _ _ a H1.w h1 hHb (by rw[erb];exact hTb)) fun e a' w' hg=>?_)
    have out:∀{K':Exit->Ov->Hp->Prop} {e},lO (aw E ov H1 l) (bp (aH l.hv H1.hp) H1.w).rho (fun e ov' H'=>K' e (iw ov l ov') (cG H1 l H')) e a' w'->lO E H.rho K' e a' w':=by
     rintro K' e ⟨ov',G,g1,g2,g3,ext,g4⟩
     refine⟨_,_,g1,nW h2 g2,?_,ext,?_⟩
     ·have:ah E (cG H1 l G)=ah (aw E ov H1 l) G:=by simp[ah,cG,aw]
      rw[this]
      exact nS hT1 g3
     ·simp only[bp,List.nil_append]at g4
      simp only[cG,g4,h4]
    cases e with
    |normal =>
     obtain⟨ov',G,g1,g2,g3,ext,g4⟩:=hg
     simp only[bp,List.nil_append]at g4
     dsimp only at g1
     unfold nJ at g1
     split at g1
     ·rename_i hk hs hh
      obtain⟨G1,e1,e2,rfl,e4,e5⟩:=bA g1 g2
      have er1:ah (aw E ov H1 l) G1=ah (aw E ov H1 l) G:=bu e4
      have ext1:∃ext,ah (aw E ov H1 l) G=ah E H1++ext:=⟨G.rho,by simp[ah,aw]⟩
      have hHa:=nO (ov:=ov) (l:=l) h2 hok1 e2
      rw[<-h5]at hy
      have hinst:=ja (ah (aw E ov H1 l) G1) (hs:=aH l.hv G1.hp) (jx (ah (aw E ov H1 l) G1) hy hs) (by rw[e5];exact hh)
      have hkn:=re hHa
      have hfin:=fR (iP (hinst G1.w) (fun b hb=>hHa.lt b (by rw[show ah (aw E ov H1 l) (bp _ G1.w)=ah E H1 from by simp[ah,bp,aw],er];exact List.mem_append_right _ (List.mem_of_mem_drop hb)))) (by rw[<-er];exact hkn) (by
       rw[iE (ah (aw E ov H1 l) G1) (ah E H) _ _ hs,iQ]
       exact e1)
      have hTy:ct E (ah E H1) (iw ov l (qJ (ah (aw E ov H1 l) G1) (aQ (aw E ov H1 l) ov' l.live))) a':=by
       refine nS hT1 (H:=H1) (nl hT1 ext1 g3 hk fun t v hv ht=>?_)
       obtain⟨hm,rfl⟩:=ju hv
       obtain⟨u,hu⟩:=ko hs t hm
       exact oo _ _ hu (by rw[er1];exact g3.rel t ht)
      have hout:=nW (w0:=H1.w) h2 hHa
      have eo:cG H1 l (bp (lp (ah (aw E ov H1 l) G1) (aH l.hv G1.hp)) G1.w)=cG H l (bp (lp (ah (aw E ov H1 l) G1) (aH l.hv G1.hp)) G1.w):=by
       simp[cG,h4,h5]
      rw[eo]at hout
      refine wp_mono (ihy E _ _ K a' G1.w hfin hout ?_) fun e a w hq=>lift ⟨[],by simp[cG,bp]⟩ hq
      have:ah E (cG H l (bp (lp (ah (aw E ov H1 l) G1) (aH l.hv G1.hp)) G1.w))=ah E H1:=by
       simp[ah,cG,bp,h4]
      rw[this]
      exact hTy
     ·exact g1.elim
    |exit i=>exact out hg
    |goto l=>exact out hg
    |ret=>exact out hg
    |panic ch=>exact out hg
    |outgrown=>exact out hg
   ·exact h.elim
 |cond c x y ihx ihy =>
  intro E ov H K a w h hH hT
  have plain:∀cc,ev E ov c=.a (.c cc)->Ei cc (f8 P x E ov H K) (f8 P y E ov H K)->(Code.cond c x y).wp P (lO E H.rho K) a w:=by
   intro cc he h
   have hr:=bR hT c
   rw[he]at hr
   rcases lW h (ah E H) with ⟨h1,h2⟩|⟨h1,h2⟩
   ·exact wp_cond_true (by rw[<-h1];exact hr.2) (ihx E _ H K a w h2 hH hT)
   ·exact wp_cond_false (by rw[<-h1];exact hr.2) (ihy E _ H K a w h2 hH hT)
  cases c with
  |tmp t =>
   cases hv:ev E ov (.tmp t) with
   |a xx=>cases xx with
    |c cc =>
     simp only[f8,hv]at h
     have hr:=bR hT (.tmp t)
     rw[hv]at hr
     have hd:a.tmps.getD t undef=cc.den (ah E H):=hr.2
     rcases lW h (ah E H) with ⟨h1,h2⟩|⟨h1,h2⟩
     ·exact wp_cond_true (by rw[<-h1];exact hr.2) (ihx E _ H K a w h2 hH (hT.narrow (by rw[hd,h1])))
     ·exact wp_cond_false (by rw[<-h1];exact hr.2) (ihy E _ H K a w h2 hH (hT.narrow (by rw[hd,h1])))
    |agg l=>simp only[f8,hv]at h
    |agx l=>simp only[f8,hv]at h
   |tup l=>simp only[f8,hv]at h
   |j=>simp only[f8,hv]at h
  |const v =>
   cases hv:ev E ov (.const v) with
   |a xx=>cases xx with
    |c cc=>simp only[f8,hv]at h;exact plain _ hv h
    |agg l=>simp only[f8,hv]at h
    |agx l=>simp only[f8,hv]at h
   |tup l=>simp only[f8,hv]at h
   |j=>simp only[f8,hv]at h
  |global g =>
   cases hv:ev E ov (.global g) with
   |a xx=>cases xx with
    |c cc=>simp only[f8,hv]at h;exact plain _ hv h
    |agg l=>simp only[f8,hv]at h
    |agx l=>simp only[f8,hv]at h
   |tup l=>simp only[f8,hv]at h
   |j=>simp only[f8,hv]at h
  |func f =>
   cases hv:ev E ov (.func f) with
   |a xx=>cases xx with
    |c cc=>simp only[f8,hv]at h;exact plain _ hv h
    |agg l=>simp only[f8,hv]at h
    |agx l=>simp only[f8,hv]at h
   |tup l=>simp only[f8,hv]at h
   |j=>simp only[f8,hv]at h
 |block id c ih =>
  intro E ov H K a w h hH hT
  simp only[f8]at h
  refine wp_block (wp_mono (ih E ov H _ a w h hH hT) fun e a' w' hg=>?_)
  cases e with
  |exit id' =>
   obtain⟨ov',G,h1,h2⟩:=hg
   simp only[Exit.inBlock]
   dsimp only at h1
   split at h1
   ·rename_i hb
    rw[if_pos (Nat.eq_of_beq_eq_true hb)]
    exact⟨ov',G,h1,h2⟩
   ·rename_i hb
    rw[if_neg (Nat.ne_of_beq_eq_false hb)]
    exact⟨ov',G,h1,h2⟩
  |normal=>exact hg
  |goto l=>exact hg
  |ret=>exact hg
  |panic ch=>exact hg
  |outgrown=>exact hg
 |loop c ih =>
  intro E ov H K a w h hH hT
  simp only[f8]at h
  split at h
  ·exact h.elim
  rename_i l hl
  split at h
  ·rename_i hok hsO hsH
   obtain⟨I,μ,hI,hstep⟩:=h
   obtain⟨H1,h1,_,rfl,h4,h5⟩:=bA hI hH
   have er:ah E H1=ah E H:=bu h4
   rw[er,h5]at h1
   have ebr:∀hvs w,ah (aw E ov H l) (bp hvs w)=ah E H:=fun hvs w=>by simp[ah,bp,aw]
   have head:∀(hvs:List (Nat×TypeId×List C)) (xs:Ov) (w:World),bD (aw E ov H l) (bp hvs w) w->
    (∀w1,lS E.an.lt (H.rho.drop H.old) w1 (j6 (ah E H) hvs w1 (I (gV (ah E H) xs++ir (ah E H) hvs) w1->
      f8 P c (aw E ov H l) xs (bp hvs w1) fun e ov' H'=>match e with
       |.normal=>nJ (aw E ov H l) l (aQ E ov l.live) (aH l.hv H.hp) ov' H' fun vs w=>I vs w/\μ vs w<μ (gV (ah E H) xs++ir (ah E H) hvs) w1
       |e=>K e (iw ov l ov') (cG H l H'))))->
    I (gV (ah E H) xs++ir (ah E H) hvs) w->
    f8 P c (aw E ov H l) xs (bp hvs w) fun e ov' H'=>match e with
     |.normal=>nJ (aw E ov H l) l (aQ E ov l.live) (aH l.hv H.hp) ov' H' fun vs w'=>I vs w'/\μ vs w'<μ (gV (ah E H) xs++ir (ah E H) hvs) w
     |e=>K e (iw ov l ov') (cG H l H'):=by
    intro hvs xs w' hs hw hi
    exact fR (iP (hw w') (fun b hb=>hs.lt b (by rw[ebr];exact List.mem_append_right _ (List.mem_of_mem_drop hb)))) (re hs) hi
   refine wp_loop (fun a' w'=>∃(xs:Ov) (hvs:List (Nat×TypeId×List C)),bD (aw E ov H l) (bp hvs w') w'/\ct (aw E ov H l) (ah E H) xs a'/\
    (f8 P c (aw E ov H l) xs (bp hvs w') fun e ov' H'=>match e with
      |.normal=>nJ (aw E ov H l) l (aQ E ov l.live) (aH l.hv H.hp) ov' H' fun vs w''=>I vs w''/\μ vs w''<μ (gV (ah E H) xs++ir (ah E H) hvs) w'
      |e=>K e (iw ov l ov') (cG H l H'))/\
    gV (ah E H) xs=l.live.map (fun t=>a'.tmps.getD t undef)/\hvs.map (·.1)=(aH l.hv H.hp).map (·.1))
    (fun a' w'=>μ (l.live.map (fun t=>a'.tmps.getD t undef)++pE (ah E H) ((aH l.hv H.hp).map (·.1)) w') w') ?_ ?_
   ·
    have hs:=oH (ov:=ov) (l:=l) hH
    refine⟨qJ (ah E H) (aQ E ov l.live),lp (ah E H) (aH l.hv H.hp),hs,?_,?_,?_,jw _ _⟩
    ·refine pw hT fun t v hv ht=>?_
     obtain⟨hm,rfl⟩:=ju hv
     obtain⟨u,hu⟩:=ko hsO t hm
     exact oo _ _ hu (hT.rel t ht)
    ·refine head _ _ _ hs (ja (ah E H) (jx (ah E H) hstep hsO) hsH) ?_
     rw[iE (ah E H) (ah E H) _ _ hsO,iQ]
     exact h1
    ·rw[iE (ah E H) (ah E H) _ _ hsO,lE hT hsO]
   ·rintro a' w' ⟨xs,hvs,hsH',hsT',hwp,hden,hkeys⟩
    refine wp_mono (ih _ _ _ _ a' w' hwp hsH' (by rw[ebr];exact hsT')) fun e a2 w2 hg=>?_
    have out:∀{K':Exit->Ov->Hp->Prop} {e},lO (aw E ov H l) (bp hvs w').rho (fun e ov' H'=>K' e (iw ov l ov') (cG H l H')) e a2 w2->lO E H.rho K' e a2 w2:=by
     rintro K' e ⟨ov',G,g1,g2,g3,ext,g4⟩
     refine⟨_,_,g1,nW hH g2,?_,ext,?_⟩
     ·have:ah E (cG H l G)=ah (aw E ov H l) G:=by simp[ah,cG,aw]
      rw[this]
      exact nS hT g3
     ·simp only[bp,List.nil_append]at g4
      simp only[cG,g4]
    cases e with
    |normal =>
     obtain⟨ov',G,g1,g2,g3,ext,g4⟩:=hg
     dsimp only at g1
     unfold nJ at g1
     split at g1
     ·rename_i hk hs hh
      obtain⟨G1,e1,e2,rfl,e4,e5⟩:=bA g1 g2
      have er1:ah (aw E ov H l) G1=ah (aw E ov H l) G:=bu e4
      have ext1:∃ext,ah (aw E ov H l) G=ah E H++ext:=⟨G.rho,by simp[ah,aw]⟩
      have hHa:=nO (ov:=ov) (l:=l) hH hok e2
      have hsl:gV (ah (aw E ov H l) G1) (aQ (aw E ov H l) ov' l.live)=l.live.map (fun t=>a2.tmps.getD t undef):=by
       rw[er1];exact lE g3 hs
      have hcan:gV (ah E H) (qJ (ah (aw E ov H l) G1) (aQ (aw E ov H l) ov' l.live))=l.live.map (fun t=>a2.tmps.getD t undef):=by
       rw[iE (ah (aw E ov H l) G1) (ah E H) _ _ hs,hsl]
      have hk2:(lp (ah (aw E ov H l) G1) (aH l.hv G1.hp)).map (·.1)=(aH l.hv H.hp).map (·.1):=by
       rw[jw,e5];exact nq hh
      have hread:pE (ah E H) ((aH l.hv H.hp).map (·.1)) G1.w=ir (ah (aw E ov H l) G1) (aH l.hv G1.hp):=by
       have hh9:qy (ah E H) _ G1.w:=re hHa
       rw[<-hk2,oa hh9,iQ]
      have hread0:pE (ah E H) ((aH l.hv H.hp).map (·.1)) w'=ir (ah E H) hvs:=by
       have hh9:qy (ah E H) _ w':=re hsH'
       rw[<-hkeys,oa hh9]
      refine⟨⟨_,_,hHa,?_,?_,hcan,hk2⟩,?_⟩
      ·refine nl hT ext1 g3 hk fun t v hv ht=>?_
       obtain⟨hm,rfl⟩:=ju hv
       obtain⟨u,hu⟩:=ko hs t hm
       exact oo _ _ hu (by rw[er1];exact g3.rel t ht)
      ·refine head _ _ _ hHa (ja (ah (aw E ov H l) G1) (jx (ah (aw E ov H l) G1) hstep hs) (by rw[e5];exact hh)) ?_
       rw[hcan,iQ,<-hsl]
       exact e1.1
      ·show μ _ _<μ _ _
       rw[hread,hread0,<-hsl,<-hden]
       exact e1.2
     ·exact g1.elim
    |exit i=>exact out hg
    |goto l=>exact out hg
    |ret=>exact out hg
    |panic ch=>exact out hg
    |outgrown=>exact out hg
  ·exact h.elim
 |rangeFunc f ps x y _ _=>intro E ov H K a w h;exact h.elim
 |exit id =>
  intro E ov H K a w h hH hT
  exact wp_exit ⟨ov,H,h,hH,hT,[],by simp⟩
 |scope c ih =>
  intro E ov H K a w h hH hT
  simp only[f8]at h
  refine wp_scope_straight (wp_mono (ih E ov H _ a w h hH hT) fun e a' w' hg=>?_)
  cases e with
  |goto l=>obtain⟨ov',G,h1,_⟩:=hg;exact h1.elim
  |exit i=>exact hg
  |normal=>exact hg
  |ret=>exact hg
  |panic ch=>exact hg
  |outgrown=>exact hg
 |label l =>
  intro E ov H K a w h hH hT
  exact wp_label ⟨ov,H,h,hH,hT,[],by simp⟩
 |goto l=>intro E ov H K a w h;exact h.elim
 |ret =>
  intro E ov H K a w h hH hT
  exact wp_ret ⟨ov,H,h,hH,hT,[],by simp⟩
 |refuse why=>intro E ov H K a w h;exact h.elim
def yW(tmps:Array Value):ResultVar->Sem Value
 |.tmp t=>pure (tmps.getD t undef)
 |.cell a t=>do loadVar t (<-asAddr (tmps.getD a undef))
theorem jR{E:En}:∀{rs:List ResultVar} {ov:Ov} {H:Hp} {k:List A->Hp->Prop} {a:Act} {wa:World},vH P E ov H rs k->bD E H wa->ct E (ah E H) ov a->
 ∃l H',k l H'/\bD E H' wa/\H'.rho=H.rho/\
  Sem.run P (rs.mapM (yW a.tmps)) wa=Result.ok (fg (ah E H') l) wa
 |[],ov,H,k,a,wa,h,hH,hT=>⟨[],H,h,hH,rfl,by simp[fg]⟩
 |.tmp t::r,ov,H,k,a,wa,h,hH,hT=>by
  simp only[vH]at h
  split at h
  ·rename_i x hx
   obtain⟨l,H',h1,h2,h3,h4⟩:=jR h hH hT
   have hlt:=ne hx (by simp)
   have hr:=hT.rel t hlt
   rw[hx]at hr
   refine⟨_,H',h1,h2,h3,?_⟩
   have er:=bu (E:=E) h3
   rw[List.mapM_cons]
   simp only[yW,Sem.run_bind,Sem.run_pure,Result.andThen_ok,h4,fg,er]
   have e9:a.tmps.getD t undef=x.den (ah E H):=hr.2
   rw[e9]
  ·exact h.elim
 |.cell ad t::r,ov,H,k,a,wa,h,hH,hT=>by
  simp only[vH]at h
  have hr0:=bR hT (.tmp ad)
  obtain⟨x,H1,adr,h1,h2,h3,h4,h5,h6,h7,_⟩:=kW h hH hr0
  have er:=bu (E:=E) h3
  obtain⟨l,H',g1,g2,g3,g4⟩:=jR h1 h2 (by rw[er];exact hT)
  have er2:=bu (E:=E) g3
  refine⟨_,H',g1,g2,by rw[g3,h3],?_⟩
  rw[List.mapM_cons]
  have e9:a.tmps.getD ad undef=.pointer (some adr):=h6
  simp only[yW,Sem.run_bind,e9,asAddr,Sem.run_pure,Result.andThen_ok,od h5 h7,g4,fg,er2]
theorem vF{E:En}{fn:Func}{R:Ending->World->Prop}{e:Exit}{a:Act}{w:World}{r0:List Nat}(h:lO E r0 (Ez P E fn R) e a w):bodyPost P fn R e a w:=by
 obtain⟨ov,H,h1,h2,h3,_⟩:=h
 have key:(vH P E ov H fn.results.toList fun l H=>match l with
  |[x]=>eX E H (DR x) fun H=>R (.returned (x.den (ah E H))) H.w
  |l=>eX E H [] fun H=>R (.returned (.tuple (fg (ah E H) l).toArray)) H.w)->a.defers=[]/\∃v,(results fn a.tmps).run P w=.ok v w/\R (.returned v) w:=by
  intro h
  refine⟨h3.df,?_⟩
  obtain⟨l,H',g1,g2,g3,g4⟩:=jR h h2 h3
  have hrun:Sem.run P (fn.results.mapM (yW a.tmps)) w=Result.ok (fg (ah E H') l).toArray w:=by
   rw[Array.mapM_eq_mapM_toList,Sem.run_map,g4];rfl
  have hres:∀vs:Array Value,Sem.run P (fn.results.mapM (yW a.tmps)) w=Result.ok vs w->(results fn a.tmps).run P w=.ok (if h:vs.size=1 then vs[0] else .tuple vs) w:=by
   intro vs hv
   have e:results fn a.tmps=(do
    let vs <-fn.results.mapM (yW a.tmps)
    pure (if h:vs.size=1 then vs[0] else .tuple vs)):=by
    unfold results
    congr 1
   rw[e,Sem.run_bind,hv]
   rfl
  have h9:=hres _ hrun
  split at g1
  ·rename_i x
   obtain⟨H2,k1,_,rfl,k4,_⟩:=bA g1 g2
   refine⟨_,h9,?_⟩
   rw[bu (E:=E) k4]at k1
   simpa[fg]using k1
  ·rename_i hne
   obtain⟨H2,k1,_,rfl,k4,_⟩:=bA g1 g2
   refine⟨_,h9,?_⟩
   rw[bu (E:=E) k4]at k1
   have:¬(fg (ah E H') l).toArray.size=1:=by
    rw[gr]
    intro hs
    simp at hs
    obtain⟨x,rfl⟩:=List.length_eq_one_iff.1 hs
    exact hne x rfl
   rw[dif_neg this]
   exact k1
 cases e with
 |normal=>exact key h1
 |ret=>exact key h1
 |exit i=>exact h1.elim
 |goto l=>exact h1.elim
 |panic c=>exact h1.elim
 |outgrown=>exact h1.elim
theorem rI:∀(n t:Nat),(mY n).getD t .j=.tup []∨(mY n).getD t .j=.j
 |0,t=>.inr (by simp[mY])
 |n+1,0=>.inl rfl
 |n+1,t+1=>by simpa[mY]using rI n t
theorem mT:∀(n:Nat),(mY n).length=n
 |0=>rfl
 |n+1=>by simp[mY,mT n]
theorem pm(hP:wV P){an:Eh}{f:Nat}{fn:Func}(hf:P.funcs[f]?=some fn){args:List V}{rho:List Nat}{hp:List (Nat×TypeId×List C)}{w:World}{R:Ending->World->Prop}
 (h:EO P an fn args rho hp w R)(hrel:∀v∈args,v.rel rho (v.den rho))(hkn:qy rho hp w)(hnd:rho.Nodup)(hlt:∀b∈rho,b<w.heap.size)
 (hbd:∀x∈hp,x.1<rho.length/\lj rho.length x.2.2)(hids:(hp.map (·.1)).Nodup):Calls P f (dY rho args).toArray w R:=by
 unfold EO at h
 split at h
 ·exact h.elim
 rename_i c hb
 split at h
 ·rename_i hle hok
  have hle':=Nat.le_of_ble_eq_true hle
  refine calls_of_wp hf hb (wp_mono (yM hP c _ _ _ _ _ w h ?_ ?_) fun e a w' hg=>vF hg)
  ·refine⟨KpL.refl _ _,?_,?_,?_,fun _=>rfl,?_,?_,?_,Nat.le_refl _,by simp⟩
   ·simpa[ah,bT]using hkn
   ·simpa[ah]using hnd
   ·simpa[ah]using hlt
   ·simpa[ah,bT]using hbd
   ·simpa[bT]using hids
   ·intro i b hi hb
    simp only[ah,List.nil_append]at hb
    have:=(List.getElem?_eq_some_iff.1 hb).1
    simp only[List.length_nil,Nat.zero_add]at hi
    omega
  ·refine⟨rfl,?_,?_,fun t ht=>?_⟩
   ·simp[m7];omega
   ·simp[mT];omega
   ·have ht':t<fn.ntmps:=ht
    rw[fT ht]
    simp only[ce,Option.getD_none,ah,List.nil_append]
    by_cases hlt':t<args.length
    ·have e1:(args++mY (fn.ntmps - args.length)).getD t .j=args[t]:=by
      simp[List.getD,List.getElem?_append_left hlt',List.getElem?_eq_getElem hlt']
     have e2:((dY rho args).toArray++Array.replicate (fn.ntmps - (dY rho args).toArray.size) undef).getD t undef=(args[t]).den rho:=by
      rw[m7]
      simp[Array.getElem?_append,hlt']
     rw[e1,e2]
     exact hrel _ (List.getElem_mem hlt')
    ·have e2:((dY rho args).toArray++Array.replicate (fn.ntmps - (dY rho args).toArray.size) undef).getD t undef=undef:=by
      rw[m7]
      simp[Array.getElem?_append,hlt',Array.getElem?_replicate]
      split<;>rfl
     rw[e2]
     have e1:(args++mY (fn.ntmps - args.length)).getD t .j=(mY (fn.ntmps - args.length)).getD (t - args.length) .j:=by
      simp[List.getD,List.getElem?_append_right (Nat.le_of_not_lt hlt')]
     rw[e1]
     rcases rI (fn.ntmps - args.length) (t - args.length) with h|h
     ·rw[h];exact⟨by simp,rfl⟩
     ·rw[h];trivial
 ·exact h.elim
end Go.Vc
namespace Go.Vc
open Go
theorem zO:(Go.Proofs.Tryz.prog.funcs.toList.all fun fn=>fn.body.isNone || !(fn.name == "runtime.NumGoroutine"))=true:=by kernel_rfl
theorem aS:wV Go.Proofs.Tryz.prog where
 num:=by
  intro f fn hf hb
  have h1:fn∈Go.Proofs.Tryz.prog.funcs.toList:=by simpa using Array.mem_of_getElem? hf
  have h2:=List.all_eq_true.1 zO fn h1
  intro he
  simp[he]at h2
  rw[h2]at hb
  cases hb
 mixed:=by kernel_rfl
def Cv(n:Nat):List (Nat×TypeId×List C)->Bool
 |[]=>true
 |(i,_,l)::r=>match Nat.blt i n,okCs n l with
  |true,true=>Cv n r
  |_,_=>false
 where okCs (n:Nat):List C->Bool
 |[]=>true
 |.loc i _::r=>match Nat.blt i n with
  |true=>okCs n r
  |false=>false
 |.lsl .. :: _=>false
 |_::r=>okCs n r
theorem ri{n:Nat}:∀{l:List C},Cv.okCs n l=true->lj n l
 |[],_,c,hc=>by simp at hc
 |x::r,h,c,hc=>by
  have hr:Cv.okCs n r=true/\x.bd n:=by
   cases x with
   |loc i o =>
    simp only[Cv.okCs]at h
    split at h
    ·rename_i hb;rw[Nat.blt_eq]at hb;exact⟨h,hb⟩
    ·cases h
   |lsl=>simp[Cv.okCs]at h
   |v x=>exact⟨h,trivial⟩
   |pt a=>exact⟨h,trivial⟩
   |sb b=>exact⟨h,trivial⟩
   |sp p d=>exact⟨h,trivial⟩
  rcases List.mem_cons.1 hc with rfl|hc
  ·exact hr.2
  ·exact ri hr.1 c hc
theorem A3{n:Nat}:∀{l:List (Nat×TypeId×List C)},Cv n l=true->∀x∈l,x.1<n/\lj n x.2.2
 |[],_,x,hx=>by simp at hx
 |(i,T,l)::r,h,x,hx=>by
  simp only[Cv]at h
  split at h
  ·rename_i h1 h2
   rw[Nat.blt_eq]at h1
   rcases List.mem_cons.1 hx with rfl|hx
   ·exact⟨h1,ri h2⟩
   ·exact A3 h x hx
  ·cases h
def Ai(n:Nat):List V->Bool
 |[]=>true
 |.a (.c (.loc i _))::r=>match Nat.blt i n with
  |true=>Ai n r
  |false=>false
 |.a (.c (.v _))::r=>Ai n r
 |.a (.c (.sb _))::r=>Ai n r
 |.a (.agx _)::r=>Ai n r
 |.a (.agg l)::r=>match Cv.okCs n l with
  |true=>Ai n r
  |false=>false
 |_=>false
theorem qP{ρ:List Nat}:∀{l:List V},Ai ρ.length l=true->∀v∈l,v.rel ρ (v.den ρ)
 |[],_,v,hv=>by simp at hv
 |x::r,h,v,hv=>by
  have hr:Ai ρ.length r=true/\x.rel ρ (x.den ρ):=by
   unfold Ai at h
   split at h
   ·cases ‹x::r=[]›
   ·rename_i he
    simp only[List.cons.injEq]at he
    obtain⟨rfl,rfl⟩:=he
    split at h
    ·rename_i hb;rw[Nat.blt_eq]at hb;exact⟨h,hb,rfl⟩
    ·cases h
   ·rename_i he
    simp only[List.cons.injEq]at he
    obtain⟨rfl,rfl⟩:=he
    exact⟨h,trivial,rfl⟩
   ·rename_i he
    simp only[List.cons.injEq]at he
    obtain⟨rfl,rfl⟩:=he
    exact⟨h,trivial,rfl⟩
   ·rename_i he
    simp only[List.cons.injEq]at he
    obtain⟨rfl,rfl⟩:=he
    exact⟨h,trivial,rfl⟩
   ·rename_i he
    simp only[List.cons.injEq]at he
    obtain⟨rfl,rfl⟩:=he
    split at h
    ·rename_i hb;exact⟨h,ri hb,rfl⟩
    ·cases h
   ·cases h
  rcases List.mem_cons.1 hv with rfl|hv
  ·exact hr.2
  ·exact qP hr.1 v hv
theorem Fk{P:Program}(hP:wV P){an:Eh}{f:Nat}{fn:Func}(hf:P.funcs[f]?=some fn){args:List V}{w:World}{R:Ending->World->Prop}{vc:Prop}{vs:Array Value}
 (he:EO P an fn args [] [] w R=vc)(ha:Ai 0 args=true)(hv:(dY [] args).toArray=vs)(h:vc):Calls P f vs w R:=by
 subst he hv
 exact pm hP hf h (qP (by simpa using ha)) trivial (by simp) (by simp) (by simp) (by simp)
theorem dD{P:Program}(hP:wV P){an:Eh}{f:Nat}{fn:Func}(hf:P.funcs[f]?=some fn){args:List V}{rho:List Nat}{hp:List (Nat×TypeId×List C)}{w:World}
 {R:Ending->World->Prop}{vc:Prop}{vs:Array Value}
 (he:EO P an fn args rho hp w R=vc)(ha:Ai rho.length args=true)(hv:(dY rho args).toArray=vs)(hk:qy rho hp w)(hnd:rho.Nodup)(hlt:∀b∈rho,b<w.heap.size)
 (hh:Cv rho.length hp=true)(hi:(hp.map (·.1)).Nodup)(h:vc):Calls P f vs w R:=by
 subst he hv
 exact pm hP hf h (qP ha) hk hnd hlt (A3 hh) hi
end Go.Vc
namespace Go.Vc
open Go
abbrev Av(M:List Nat)(w:World):Nat->Prop:=fun b=>b<w.heap.size/\b∉M
structure Ty (α:Type) where
 sz:Nat
 rel:(Nat->Prop)->World->α->List Value->Prop
 len:∀{A w x cs},rel A w x cs->cs.length=sz
 one:∀{A w x cs},rel A w x cs->∀v∈cs,jA v=true
 mono:∀{A A':Nat->Prop} {w w':World} {x cs},rel A w x cs->(∀b,A b->A' b/\w'.heap[b]?=w.heap[b]?)->rel A' w' x cs
def R{α:Type}(t:Ty α)(M:List Nat)(w:World)(x:α)(cs:List Value):Prop:=t.rel (Av M w) w x cs
variable {α β:Type}
theorem R.len{t:Ty α}{M:List Nat}{w:World}{x:α}{cs:List Value}(h:R t M w x cs):cs.length=t.sz:=t.len h
theorem R.kp{t:Ty α}{M N:List Nat}{w w':World}{x:α}{cs:List Value}(h:R t M w x cs)(k:KpL N w w')(hs:∀b∈N,b∈M):R t M w' x cs :=
 t.mono h fun b hb=>⟨⟨Nat.lt_of_lt_of_le hb.1 k.size,hb.2⟩,k.blk b hb.1 fun hn=>hb.2 (hs b hn)⟩
theorem R.kp0{t:Ty α}{M:List Nat}{w w':World}{x:α}{cs:List Value}(h:R t M w x cs)(k:KpL [] w w'):R t M w' x cs:=h.kp k (by simp)
theorem R.weak{t:Ty α}{M M':List Nat}{w:World}{x:α}{cs:List Value}(h:R t M w x cs)(hs:∀b∈M',b∈M):R t M' w x cs :=
 t.mono h fun _ hb=>⟨⟨hb.1,fun hm=>hb.2 (hs _ hm)⟩,rfl⟩
theorem R.fresh{t:Ty α}{M:List Nat}{w w':World}{x:α}{cs:List Value}(h:R t M w x cs)(k:KpL [] w w'){N:List Nat}(hN:∀b∈N,w.heap.size<=b):R t (N++M) w' x cs :=
 t.mono h fun b hb=>⟨⟨Nat.lt_of_lt_of_le hb.1 k.size,fun hm=>by
  rcases List.mem_append.1 hm with hm|hm
  ·have:=hN b hm;omega
  ·exact hb.2 hm⟩,k.blk b hb.1 (by simp)⟩
theorem R.cons{t:Ty α}{M:List Nat}{w w':World}{x:α}{cs:List Value}(h:R t M w x cs)(k:KpL [] w w'){b:Nat}(hb:w.heap.size<=b):R t (b::M) w' x cs :=
 h.fresh k (N:=[b]) (by simpa using hb)
def tI(k:IntKind):Ty Int where
 sz:=1
 rel:=fun _ _ x cs=>cs=[.int k x]/\ar k x
 len:=by rintro _ _ _ _ ⟨rfl,_⟩;rfl
 one:=by rintro _ _ _ _ ⟨rfl,_⟩ v hv;simp at hv;subst hv;rfl
 mono:=fun h _=>h
def tB:Ty Bool where
 sz:=1
 rel:=fun _ _ x cs=>cs=[.bool x]
 len:=by rintro _ _ _ _ rfl;rfl
 one:=by rintro _ _ _ _ rfl v hv;simp at hv;subst hv;rfl
 mono:=fun h _=>h
def tS:Ty ByteArray where
 sz:=1
 rel:=fun _ _ x cs=>cs=[.string x]/\x.size<=9223372036854775807
 len:=by rintro _ _ _ _ ⟨rfl,_⟩;rfl
 one:=by rintro _ _ _ _ ⟨rfl,_⟩ v hv;simp at hv;subst hv;rfl
 mono:=fun h _=>h
def nD(sz:Nat)(enc:α->List Value)(ok:α->Prop)(hl:∀x,ok x->(enc x).length=sz)(h1:∀x,∀v∈enc x,jA v=true):Ty α where
 sz:=sz
 rel:=fun _ _ x cs=>cs=enc x/\ok x
 len:=by rintro _ _ _ _ ⟨rfl,h⟩;exact hl _ h
 one:=by rintro _ _ _ _ ⟨rfl,_⟩ v hv;exact h1 _ v hv
 mono:=fun h _=>h
def tP(a:Ty α)(b:Ty β):Ty (α×β) where
 sz:=a.sz+b.sz
 rel:=fun A w x cs=>∃c d,cs=c++d/\a.rel A w x.1 c/\b.rel A w x.2 d
 len:=by rintro A w x cs ⟨c,d,rfl,h1,h2⟩;simp[a.len h1,b.len h2]
 one:=by
  rintro A w x cs ⟨c,d,rfl,h1,h2⟩ v hv
  rcases List.mem_append.1 hv with hv|hv
  ·exact a.one h1 v hv
  ·exact b.one h2 v hv
 mono:=by rintro A A' w w' x cs ⟨c,d,rfl,h1,h2⟩ h;exact⟨c,d,rfl,a.mono h1 h,b.mono h2 h⟩
def tM(f:β->α)(a:Ty α):Ty β where
 sz:=a.sz
 rel:=fun A w x cs=>a.rel A w (f x) cs
 len:=a.len
 one:=a.one
 mono:=a.mono
def DB(e:Ty α)(A:Nat->Prop)(w:World)(arr:List Value)(off:Nat)(xs:List α):Prop :=
 ∀i x,xs[i]?=some x->∃cs,e.rel A w x cs/\∀j v,cs[j]?=some v->arr[off+i*e.sz+j]?=some v
theorem DB.mono{e:Ty α}{A A':Nat->Prop}{w w':World}{arr:List Value}{off:Nat}{xs:List α}(h:DB e A w arr off xs)(hm:∀b,A b->A' b/\w'.heap[b]?=w.heap[b]?):DB e A' w' arr off xs:=by
 intro i x hx
 obtain⟨cs,h1,h2⟩:=h i x hx
 exact⟨cs,e.mono h1 hm,h2⟩
def az:Nat:=140737488355328
def au(e:Ty α):Ty (List α) where
 sz:=1
 rel:=fun A w xs cs=>∃a c,cs=[.slice a xs.length c]/\xs.length<=c/\xs.length<=az/\
  (xs≠[]->∃b off arr T fz,a=some ⟨b,off,none⟩/\A b/\w.heap[b]?=some (.cells arr T fz)/\DB e A w arr.toList off xs)
 len:=by rintro _ _ _ _ ⟨a,c,rfl,_⟩;rfl
 one:=by rintro _ _ _ _ ⟨a,c,rfl,_⟩ v hv;simp at hv;subst hv;rfl
 mono:=by
  rintro A A' w w' xs cs ⟨a,c,rfl,h1,h2,h3⟩ hm
  refine⟨a,c,rfl,h1,h2,fun hne=>?_⟩
  obtain⟨b,off,arr,T,fz,rfl,hA,hh,he⟩:=h3 hne
  exact⟨b,off,arr,T,fz,rfl,(hm b hA).1,by rw[(hm b hA).2];exact hh,he.mono hm⟩
theorem R.sl_nil(e:Ty α)(M:List Nat)(w:World)(a:Option Addr)(c:Nat):R (au e) M w [] [.slice a 0 c] :=
 ⟨a,c,rfl,Nat.zero_le _,by simp,fun h=>absurd rfl h⟩
theorem R.sl_len{e:Ty α}{M:List Nat}{w:World}{xs:List α}{a:Option Addr}{n c:Nat}(h:R (au e) M w xs [.slice a n c]):n=xs.length/\n<=c/\n<=az:=by
 obtain⟨a',c',h1,h2,h3,_⟩:=h
 simp only[List.cons.injEq,Value.slice.injEq,and_true]at h1
 obtain⟨rfl,rfl,rfl⟩:=h1
 exact⟨rfl,h2,h3⟩
theorem R.sl_form{e:Ty α}{M:List Nat}{w:World}{xs:List α}{cs:List Value}(h:R (au e) M w xs cs):∃a c,cs=[.slice a xs.length c]:=by
 obtain⟨a,c,h1,_⟩:=h
 exact⟨a,c,h1⟩
theorem R.sl_get{e:Ty α}{M:List Nat}{w:World}{xs:List α}{a:Option Addr}{n c:Nat}(h:R (au e) M w xs [.slice a n c]){i:Nat}(hi:i<xs.length):
 ∃ad cs,a=some ad/\R e M w xs[i] cs/\ao w (ad.add (i*e.sz)) cs/\ad.block∉M/\ad.block<w.heap.size:=by
 obtain⟨a',c',h1,_,_,h3⟩:=h
 simp only[List.cons.injEq,Value.slice.injEq,and_true]at h1
 obtain⟨rfl,rfl,rfl⟩:=h1
 obtain⟨b,off,arr,T,fz,rfl,hA,hh,he⟩:=h3 (by rintro rfl;simp at hi)
 obtain⟨cs,h4,h5⟩:=he i xs[i] (by simp[hi])
 refine⟨_,cs,rfl,h4,⟨fun j v hv=>?_⟩,hA.2,hA.1⟩
 rw[al,al,bZ hh]
 have:=h5 j v hv
 simpa using this
theorem ao.sub{w:World}{a:Addr}{l:List Value}(h:ao w a l)(o:Nat)(m:List Value)(hm:∀i v,m[i]?=some v->l[o+i]?=some v)(ha:a.spot=none):ao w (a.add o) m:=by
 refine⟨fun i v hv=>?_⟩
 have:=h.at_ (o+i) v (hm i v hv)
 obtain⟨b,off,sp⟩:=a
 simp only at ha
 subst ha
 rw[al]at this ⊢
 rw[al,Nat.add_assoc]
 exact this
def aj:Option Addr->List Nat
 |none=>[]
 |some a=>[a.block]
structure bI (e:Ty α) (M:List Nat) (w:World) (xs:List α) (a:Option Addr) (n c:Nat):Prop where
 len:n=xs.length
 cap:n<=c
 mlt:∀b∈M,b<w.heap.size
 nil:a=none->c=0
 at_:∀ad,a=some ad->∃b arr T,ad=⟨b,0,none⟩/\b∉M/\w.heap[b]?=some (.cells arr T (0,0))/\arr.size=c*e.sz/\DB e (Av (b::M) w) w arr.toList 0 xs
theorem bI.nil'(e:Ty α){M:List Nat}{w:World}(hM:∀b∈M,b<w.heap.size):bI e M w [] none 0 0:=⟨rfl,Nat.le_refl _,hM,fun _=>rfl,fun _ h=>by cases h⟩
theorem bI.blk_lt{e:Ty α}{M:List Nat}{w:World}{xs:List α}{a:Option Addr}{n c:Nat}(h:bI e M w xs a n c):∀b∈aj a,b<w.heap.size/\b∉M:=by
 intro b hb
 cases a with
 |none=>simp[aj]at hb
 |some ad =>
  obtain⟨b',arr,T,rfl,h1,h2,_⟩:=h.at_ ad rfl
  simp[aj]at hb
  subst hb
  exact⟨ab h2,h1⟩
theorem bI.kp{e:Ty α}{M N:List Nat}{w w':World}{xs:List α}{a:Option Addr}{n c:Nat}(h:bI e M w xs a n c)(k:KpL N w w')(hs:∀b∈N,b∈M):bI e M w' xs a n c:=by
 refine⟨h.len,h.cap,fun b hb=>Nat.lt_of_lt_of_le (h.mlt b hb) k.size,h.nil,fun ad had=>?_⟩
 obtain⟨b,arr,T,h1,h2,h3,h4,h5⟩:=h.at_ ad had
 have hN:∀x,x<w.heap.size->x∉M->w'.heap[x]?=w.heap[x]?:=fun x hx hm=>k.blk x hx fun hn=>hm (hs x hn)
 refine⟨b,arr,T,h1,h2,by rw[hN b (ab h3) h2];exact h3,h4,h5.mono fun x hx=>⟨⟨Nat.lt_of_lt_of_le hx.1 k.size,hx.2⟩,hN x hx.1 fun hm=>hx.2 (List.mem_cons_of_mem _ hm)⟩⟩
theorem bI.kp0{e:Ty α}{M:List Nat}{w w':World}{xs:List α}{a:Option Addr}{n c:Nat}(h:bI e M w xs a n c)(k:KpL [] w w'):bI e M w' xs a n c:=h.kp k (by simp)
theorem bI.weak{e:Ty α}{M M':List Nat}{w:World}{xs:List α}{a:Option Addr}{n c:Nat}(h:bI e M w xs a n c)(hs:∀b∈M',b∈M):bI e M' w xs a n c:=by
 refine⟨h.len,h.cap,fun b hb=>h.mlt b (hs b hb),h.nil,fun ad had=>?_⟩
 obtain⟨b,arr,T,h1,h2,h3,h4,h5⟩:=h.at_ ad had
 exact⟨b,arr,T,h1,fun hm=>h2 (hs b hm),h3,h4,h5.mono fun x hx=>⟨⟨hx.1,fun hm=>hx.2 (by
  rcases List.mem_cons.1 hm with rfl|hm
  ·simp
  ·exact List.mem_cons_of_mem _ (hs x hm))⟩,rfl⟩⟩
theorem bI.cons{e:Ty α}{M:List Nat}{w w':World}{xs:List α}{a:Option Addr}{n c:Nat}(h:bI e M w xs a n c)(k:KpL [] w w'){b:Nat}(hb:w.heap.size<=b)(hb':b<w'.heap.size):bI e (b::M) w' xs a n c:=by
 refine⟨h.len,h.cap,fun x hx=>by
  rcases List.mem_cons.1 hx with rfl|hx
  ·exact hb'
  ·exact Nat.lt_of_lt_of_le (h.mlt x hx) k.size,h.nil,fun ad had=>?_⟩
 obtain⟨b',arr,T,h1,h2,h3,h4,h5⟩:=h.at_ ad had
 have hlt:=ab h3
 refine⟨b',arr,T,h1,fun hm=>?_,by rw[k.blk b' hlt (by simp)];exact h3,h4,h5.mono fun x hx=>⟨⟨Nat.lt_of_lt_of_le hx.1 k.size,fun hm=>?_⟩,k.blk x hx.1 (by simp)⟩⟩
 ·rcases List.mem_cons.1 hm with rfl|hm
  ·omega
  ·exact h2 hm
 ·rcases List.mem_cons.1 hm with rfl|hm
  ·exact hx.2 (by simp)
  ·rcases List.mem_cons.1 hm with rfl|hm
   ·have:=hx.1;omega
   ·exact hx.2 (List.mem_cons_of_mem _ hm)
theorem bI.news{e:Ty α}{M N:List Nat}{w w':World}{xs:List α}{a:Option Addr}{n c:Nat}(h:bI e M w xs a n c)(k:KpL [] w w')(hN:∀b∈N,w.heap.size<=b/\b<w'.heap.size):bI e (N++M) w' xs a n c:=by
 refine⟨h.len,h.cap,fun x hx=>by
  rcases List.mem_append.1 hx with hx|hx
  ·exact(hN x hx).2
  ·exact Nat.lt_of_lt_of_le (h.mlt x hx) k.size,h.nil,fun ad had=>?_⟩
 obtain⟨b',arr,T,h1,h2,h3,h4,h5⟩:=h.at_ ad had
 have hlt:=ab h3
 refine⟨b',arr,T,h1,fun hm=>?_,by rw[k.blk b' hlt (by simp)];exact h3,h4,h5.mono fun x hx=>⟨⟨Nat.lt_of_lt_of_le hx.1 k.size,fun hm=>?_⟩,k.blk x hx.1 (by simp)⟩⟩
 ·rcases List.mem_append.1 hm with hm|hm
  ·have:=hN _ hm;omega
  ·exact h2 hm
 ·rcases List.mem_cons.1 hm with rfl|hm
  ·exact hx.2 (by simp)
  ·rcases List.mem_append.1 hm with hm|hm
   ·have:=hN _ hm;have:=hx.1;omega
   ·exact hx.2 (List.mem_cons_of_mem _ hm)
theorem bI.out{e:Ty α}{M:List Nat}{w:World}{xs:List α}{a:Option Addr}{n c:Nat}(h:bI e M w xs a n c){k:Nat}(hk:k∈M):af k (aj a) :=
 ⟨fun hm=>(h.blk_lt k hm).2 hk⟩
theorem bI.done{e:Ty α}{M:List Nat}{w:World}{xs:List α}{a:Option Addr}{n c:Nat}(h:bI e M w xs a n c)(hn:n<=az):R (au e) M w xs [.slice a n c]:=by
 refine⟨a,c,by rw[h.len],by rw[<-h.len];exact h.cap,by rw[<-h.len];exact hn,fun hne=>?_⟩
 cases a with
 |none =>
  have h1:=h.nil rfl
  have h2:=h.cap
  have h3:=h.len
  have:xs.length=0:=by omega
  exact absurd (List.length_eq_zero_iff.1 this) hne
 |some ad =>
  obtain⟨b,arr,T,rfl,h1,h2,_,h5⟩:=h.at_ ad rfl
  exact⟨b,0,arr,T,(0,0),rfl,⟨ab h2,h1⟩,h2,h5.mono fun x hx=>⟨⟨hx.1,fun hm=>hx.2 (List.mem_cons_of_mem _ hm)⟩,rfl⟩⟩
structure aZ (e:Ty α) (M:List Nat) (w0:World) (a0:Option Addr) (xs:List α) (a:Option Addr) (n c:Nat) (w:World):Prop where
 acc:bI e M w xs a n c
 kp:KpL (aj a0) w0 w
 own:∀b∈aj a,b∈aj a0∨w0.heap.size<=b
theorem aZ.refl{e:Ty α}{M:List Nat}{w:World}{xs:List α}{a:Option Addr}{n c:Nat}(h:bI e M w xs a n c):aZ e M w a xs a n c w:=⟨h,KpL.refl _ _,fun _ hb=>.inl hb⟩
theorem aZ.kp0{e:Ty α}{M:List Nat}{w0 w w':World}{a0:Option Addr}{xs:List α}{a:Option Addr}{n c:Nat}(h:aZ e M w0 a0 xs a n c w)(k:KpL [] w w'):aZ e M w0 a0 xs a n c w' :=
 ⟨h.acc.kp0 k,h.kp.trans (k.mono (by simp)),h.own⟩
theorem KpL.more{l m:List Nat}{a b c:World}(h:KpL l a b)(k:KpL m b c)(hm:∀x∈m,x∈l∨a.heap.size<=x):KpL l a c :=
 ⟨k.os.trans h.os,k.tape.trans h.tape,k.output.trans h.output,Nat.le_trans h.drawn k.drawn,Nat.le_trans h.size k.size,fun x hx hl=>by
   rw[k.blk x (Nat.lt_of_lt_of_le hx h.size) (fun hxm=>(hm x hxm).elim hl (fun hge=>by omega)),h.blk x hx hl]⟩
theorem aZ.trans{e:Ty α}{M:List Nat}{w0 w w':World}{a0:Option Addr}{xs ys:List α}{a a':Option Addr}{n c n' c':Nat}(h:aZ e M w0 a0 xs a n c w)(k:aZ e M w a ys a' n' c' w'):
 aZ e M w0 a0 ys a' n' c' w' :=
 ⟨k.acc,h.kp.more k.kp h.own,fun b hb=>(k.own b hb).elim (h.own b) (fun hge=>.inr (Nat.le_trans h.kp.size hge))⟩
theorem aZ.data{β:Type}{e:Ty α}{M N:List Nat}{w0 w:World}{a0:Option Addr}{xs:List α}{a:Option Addr}{n c:Nat}(h:aZ e M w0 a0 xs a n c w){t:Ty β}{x:β}{cs:List Value}
 (hR:R t (aj a0++N) w0 x cs):R t (aj a++N) w x cs :=
 t.mono hR fun b hb=>⟨⟨Nat.lt_of_lt_of_le hb.1 h.kp.size,fun hm=>by
  rcases List.mem_append.1 hm with hm|hm
  ·rcases h.own b hm with hm|hm
   ·exact hb.2 (List.mem_append_left _ hm)
   ·exact absurd hb.1 (by omega)
  ·exact hb.2 (List.mem_append_right _ hm)⟩,h.kp.blk b hb.1 fun hm=>hb.2 (List.mem_append_left _ hm)⟩
theorem aZ.kpn{e:Ty α}{M:List Nat}{w0 w:World}{xs:List α}{a:Option Addr}{n c:Nat}(h:aZ e M w0 none xs a n c w):KpL [] w0 w:=h.kp
theorem aZ.weak{e:Ty α}{M M':List Nat}{w0 w:World}{a0:Option Addr}{xs:List α}{a:Option Addr}{n c:Nat}(h:aZ e M w0 a0 xs a n c w)(hs:∀b∈M',b∈M):aZ e M' w0 a0 xs a n c w:=⟨h.acc.weak hs,h.kp,h.own⟩
theorem aZ.next{e:Ty α}{M N:List Nat}{w0 w1 w w':World}{a0:Option Addr}{xs ys:List α}{a a':Option Addr}{n c n' c':Nat}(h:aZ e M w0 a0 xs a n c w1)(k:KpL [] w1 w)(k2:aZ e (N++M) w a ys a' n' c' w'):
 aZ e M w0 a0 ys a' n' c' w':=(h.kp0 k).trans (k2.weak fun _ hb=>List.mem_append_right _ hb)
theorem R.sl_len'{e:Ty α}{M:List Nat}{w:World}{xs:List α}{a:Option Addr}{n c:Nat}(h:R (au e) M w xs [.slice a n c]):xs.length=n:=h.sl_len.1.symm
end Go.Vc
namespace Go.Vc
open Go
variable {α β:Type} {P:Program}
def Fx(P:Program)(st te sz by_:Nat):Bool :=
 match P.underlying st with
 |some (.slice t)=>match Nat.beq t te,P.info? te,P.underlying te with
  |true,some i,some _=>match i.zero with
   |some z=>match Nat.beq i.size sz,Nat.beq i.bytes by_,Nat.beq z.cells.size sz with
    |true,true,true=>true
    |_,_,_=>false
   |none=>false
  |_,_,_=>false
 |_=>false
structure Dj (P:Program) (st te sz by_:Nat):Prop where
 und:P.underlying st=some (.slice te)
 size:∀w,(sizeOf te).run P w=.ok sz w
 bytes:∃i,(∀w,(typeInfo te).run P w=.ok i w)/\i.bytes=by_
 zero:∃z,(∀w,(zeroValue te).run P w=.ok z w)/\z.cells.size=sz
theorem me{st te sz by_:Nat}(h:Fx P st te sz by_=true):Dj P st te sz by_:=by
 unfold Fx at h
 split at h
 ·rename_i t hu
  split at h
  ·rename_i hb hi hd
   split at h
   ·rename_i z hz
    split at h
    ·rename_i h1 h2 h3
     have e1:=Nat.eq_of_beq_eq_true hb
     subst e1
     have e2:=Nat.eq_of_beq_eq_true h1
     have e3:=Nat.eq_of_beq_eq_true h2
     have e4:=Nat.eq_of_beq_eq_true h3
     exact⟨hu,fun w=>by simp[sizeOf,aW hi,e2],⟨_,fun w=>aW hi w,e3⟩,⟨z,fun w=>by simp[zeroValue,aW hi,hz],e4⟩⟩
    ·cases h
   ·cases h
  ·cases h
 ·cases h
def iz(e:Ty α)(M:List Nat)(w:World)(ys:List α)(l:List Value):Prop :=
 l.length=ys.length*e.sz/\(∀v∈l,jA v=true)/\∀i x,ys[i]?=some x->∃cs,R e M w x cs/\∀j v,cs[j]?=some v->l[i*e.sz+j]?=some v
theorem nu{e:Ty α}{M:List Nat}{w:World}{arr:List Value}{off:Nat}:∀(n:Nat) {xs:List α},xs.length=n->DB e (Av M w) w arr off xs->iz e M w xs ((arr.drop off).take (xs.length*e.sz)):=by
 intro n xs hn h
 have key:∀i,i<xs.length*e.sz->∃v,arr[off+i]?=some v/\jA v=true:=by
  intro i hi
  have hsz:0<e.sz:=by
   rcases Nat.eq_zero_or_pos e.sz with h0|h0
   ·rw[h0]at hi;simp at hi
   ·exact h0
  have hq:i / e.sz<xs.length:=by rw[Nat.div_lt_iff_lt_mul hsz];exact hi
  obtain⟨cs,h1,h2⟩:=h (i / e.sz) xs[i / e.sz] (by simp[hq])
  have hr:i%e.sz<cs.length:=by rw[e.len h1];exact Nat.mod_lt _ hsz
  have:=h2 (i%e.sz) cs[i%e.sz] (by simp[hr])
  rw[show off+i / e.sz*e.sz+i%e.sz=off+i from by rw[Nat.add_assoc,Nat.div_add_mod']]at this
  exact⟨_,this,e.one h1 _ (List.getElem_mem hr)⟩
 have hlen:((arr.drop off).take (xs.length*e.sz)).length=xs.length*e.sz:=by
  simp only[List.length_take,List.length_drop]
  rcases Nat.eq_zero_or_pos (xs.length*e.sz) with h0|h0
  ·omega
  ·obtain⟨v,hv,_⟩:=key (xs.length*e.sz - 1) (by omega)
   have:=(List.getElem?_eq_some_iff.1 hv).1
   omega
 refine⟨hlen,fun v hv=>?_,fun i x hx=>?_⟩
 ·obtain⟨i,hi,rfl⟩:=List.getElem_of_mem hv
  rw[hlen]at hi
  obtain⟨u,hu,h1⟩:=key i hi
  have:((arr.drop off).take (xs.length*e.sz))[i]?=some u:=by
   rw[List.getElem?_take,if_pos hi,List.getElem?_drop];exact hu
  rw[List.getElem?_eq_getElem (by rw[hlen];exact hi)]at this
  simp only[Option.some.injEq]at this
  rw[this];exact h1
 ·obtain⟨cs,h1,h2⟩:=h i x hx
  refine⟨cs,h1,fun j v hv=>?_⟩
  have hi:i<xs.length:=(List.getElem?_eq_some_iff.1 hx).1
  have hj:j<e.sz:=by rw[<-e.len h1];exact(List.getElem?_eq_some_iff.1 hv).1
  have hij:i*e.sz+j<xs.length*e.sz:=by
   calc i*e.sz+j<i*e.sz+e.sz:=by omega
    _=(i+1)*e.sz:=by rw[Nat.add_mul];omega
    _<=xs.length*e.sz:=Nat.mul_le_mul_right _ hi
  rw[List.getElem?_take,if_pos hij,List.getElem?_drop,<-Nat.add_assoc]
  exact h2 j v hv
theorem R.flat{e:Ty α}{M:List Nat}{w:World}{xs:List α}{a:Option Addr}{n c:Nat}(h:R (au e) M w xs [.slice a n c]):
 ∃l,iz e M w xs l/\(∀ad,a=some ad->xs≠[]->ao w ad l)/\(a=none->xs=[]):=by
 obtain⟨a',c',h1,h2,h3,h4⟩:=h
 simp only[List.cons.injEq,Value.slice.injEq,and_true]at h1
 obtain⟨rfl,rfl,rfl⟩:=h1
 by_cases hne:xs=[]
 ·subst hne
  exact⟨[],⟨by simp,by simp,by simp⟩,fun ad _ hn=>absurd rfl hn,fun _=>rfl⟩
 ·obtain⟨b,off,arr,T,fz,rfl,hA,hh,he⟩:=h4 hne
  refine⟨_,nu _ rfl he,fun ad had _=>?_,fun hc=>by cases hc⟩
  simp only[Option.some.injEq]at had
  subst had
  exact jq (by simpa using hh) off _
theorem dm{sz n:Nat}{a:Option Addr}{m c:Nat}{w:World}{l:List Value}(hl:l.length=n*sz)(h1:∀ad,a=some ad->n≠0->ao w ad l)(h2:a=none->n=0):
 (Builtin.firstCells sz n (.slice a m c)).run P w=.ok l.toArray w:=by
 cases a with
 |none =>
  have:=h2 rfl
  subst this
  have:l=[]:=List.length_eq_zero_iff.1 (by omega)
  subst this
  rfl
 |some ad =>
  simp only[Builtin.firstCells,loadCells]
  by_cases hn:n=0
  ·subst hn
   have:l=[]:=List.length_eq_zero_iff.1 (by omega)
   subst this
   simp[loadCellsFrom]
  ·rw[fX ad w (n*sz) 0 #[] l hl (fun k v hk=>by simpa using (h1 ad rfl hn).at_ k v hk)]
   simp
theorem pV(need:Nat):∀(r c:Nat),c<need->Builtin.growBy need r c<=2*need+768
 |0,c,h=>by simp only[Builtin.growBy];omega
 |r+1,c,h=>by
  simp only[Builtin.growBy]
  split
  ·omega
  ·by_cases hc:c+(c+768) / 4<need
   ·exact pV need r _ hc
   ·cases r with
    |zero=>simp only[Builtin.growBy];omega
    |succ r=>simp only[Builtin.growBy];rw[if_pos (by omega)];omega
theorem vw{need c:Nat}(h:c<need):Builtin.nextslicecap need c<=2*need+768:=by
 unfold Builtin.nextslicecap
 split
 ·omega
 ·split
  ·omega
  ·exact pV need 4 c h
theorem nG(z:Array Value)(n:Nat):(Builtin.zeroCells z n).size=n*z.size:=by simp[Builtin.zeroCells]
structure sU (P:Program) (e:Ty α) (M:List Nat) (w:World) (ys:List α) (x:Value) (m:Nat) (ly:List Value):Prop where
 len:∀w,(Builtin.lenOf x).run P w=.ok m w
 num:m=ys.length
 flat:iz e M w ys ly
 first:∀w',KpL [] w w'->(Builtin.firstCells e.sz m x).run P w'=.ok ly.toArray w'
structure oe (P:Program) (st st2 te sz by_:Nat):Prop where
 el:Dj P st te sz by_
 el2:∃d,P.underlying st2=some d/\(d=.string∨∃k,d=.slice k)
 pos:by_≠0
def FI(P:Program)(st st2 te sz by_:Nat):Bool :=
 match Fx P st te sz by_,P.underlying st2,by_ with
 |true,some (.slice _),_+1=>true
 |true,some .string,_+1=>true
 |_,_,_=>false
theorem bM{st st2 te sz by_:Nat}(h:FI P st st2 te sz by_=true):oe P st st2 te sz by_:=by
 unfold FI at h
 split at h
 ·rename_i h2 h1
  exact⟨me h1,⟨_,h2,.inr ⟨_,rfl⟩⟩,by simp⟩
 ·rename_i h2 h1
  exact⟨me h1,⟨_,h2,.inl rfl⟩,by simp⟩
 ·cases h
theorem R.srcs{e:Ty α}{M:List Nat}{w:World}{ys:List α}{a2:Option Addr}{m c2:Nat}(hy:R (au e) M w ys [.slice a2 m c2]):∃ly,sU P e M w ys (.slice a2 m c2) m ly:=by
 obtain⟨hm,hm2,hm3⟩:=hy.sl_len
 obtain⟨ly,hf,hl1,hl2⟩:=hy.flat
 exact⟨ly,fun w=>by simp[Builtin.lenOf],hm,hf,fun w' hk =>
  dm (by rw[hf.1,hm]) (fun ad had hne=>(hl1 ad had (by rintro rfl;simp at hm;exact hne hm)).kp hk) (fun hn=>by have:=hl2 hn;subst this;simpa using hm)⟩
def cB(s:ByteArray):List Int:=s.data.toList.map fun b=>(b.toNat:Int)
theorem zM{M:List Nat}{w:World}(s:ByteArray):sU P (tI .u8) M w (cB s) (.string s) s.size ((cB s).map (Value.int .u8)):=by
 have hsz:s.size=(cB s).length:=by
  show s.data.size=_
  unfold cB
  rw[List.length_map,Array.length_toList]
 refine⟨fun w=>rfl,hsz,⟨by rw[List.length_map,show(tI .u8).sz=1 from rfl,Nat.mul_one],fun v hv=>?_,fun i x hx=>?_⟩,fun w' _=>?_⟩
 ·simp only[List.mem_map]at hv
  obtain⟨a,_,rfl⟩:=hv
  rfl
 ·refine⟨[.int .u8 x],⟨rfl,?_⟩,fun j v hv=>?_⟩
  ·simp only[cB,List.getElem?_map,Option.map_eq_some_iff]at hx
   obtain⟨b,_,rfl⟩:=hx
   have:=b.toNat_lt
   exact⟨show(0:Int)<=_ by omega,show _<=(255:Int) by omega⟩
  ·cases j with
   |zero =>
    simp at hv
    subst hv
    simp only[tI,Nat.mul_one,Nat.add_zero,List.getElem?_map,hx,Option.map_some]
   |succ j=>simp at hv
 ·show Result.ok ((s.extract 0 s.size).data.map fun b=>Value.int .u8 b.toNat) w'=_
  congr 1
  apply Array.toList_inj.1
  have h1:(s.extract 0 s.size).data=s.data:=by
   rw[ByteArray.extract_zero_size]
  rw[h1]
  unfold cB
  rw[Array.toList_map,List.map_map]
  rfl
theorem mD{e:Ty α}{M:List Nat}{w:World}{xs ys:List α}{l m:List Value}(h1:iz e M w xs l)(h2:iz e M w ys m):iz e M w (xs++ys) (l++m):=by
 refine⟨by simp[h1.1,h2.1,Nat.add_mul],fun v hv=>?_,fun i x hx=>?_⟩
 ·rcases List.mem_append.1 hv with hv|hv
  ·exact h1.2.1 v hv
  ·exact h2.2.1 v hv
 ·by_cases hi:i<xs.length
  ·rw[List.getElem?_append_left hi]at hx
   obtain⟨cs,h3,h4⟩:=h1.2.2 i x hx
   refine⟨cs,h3,fun j v hv=>?_⟩
   have:=h4 j v hv
   rw[List.getElem?_append_left (List.getElem?_eq_some_iff.1 this).1]
   exact this
  ·rw[List.getElem?_append_right (Nat.le_of_not_lt hi)]at hx
   obtain⟨cs,h3,h4⟩:=h2.2.2 (i - xs.length) x hx
   refine⟨cs,h3,fun j v hv=>?_⟩
   have:=h4 j v hv
   have hge:i*e.sz+j=l.length+((i - xs.length)*e.sz+j):=by
    rw[h1.1,Nat.sub_mul]
    have:xs.length*e.sz<=i*e.sz:=Nat.mul_le_mul_right _ (Nat.le_of_not_lt hi)
    omega
   rw[hge,List.getElem?_append_right (by omega),Nat.add_sub_cancel_left]
   exact this
theorem iz.els{e:Ty α}{M:List Nat}{w w':World}{xs:List α}{l t:List Value}{A:Nat->Prop}(h:iz e M w xs l)(hm:∀b,b<w.heap.size->b∉M->A b/\w'.heap[b]?=w.heap[b]?):DB e A w' (l++t) 0 xs:=by
 intro i x hx
 obtain⟨cs,h1,h2⟩:=h.2.2 i x hx
 refine⟨cs,e.mono h1 fun b hb=>hm b hb.1 hb.2,fun j v hv=>?_⟩
 have:=h2 j v hv
 rw[Nat.zero_add,List.getElem?_append_left (List.getElem?_eq_some_iff.1 this).1]
 exact this
theorem fq{γ:Type}:∀(L:List γ) (o:Nat) (r:List γ),o+r.length<=L.length->setL L o r=L.take o++(r++L.drop (o+r.length)):=by
 intro L
 induction L with
 |nil=>intro o r hor;simp at hor;obtain⟨rfl,rfl⟩:=hor;simp[setL]
 |cons x L ih =>
  intro o r hor
  cases o with
  |zero =>
   cases r with
   |nil=>simp[setL]
   |cons v r =>
    simp only[setL,List.take_zero,List.nil_append,List.length_cons,List.cons_append]
    have:=ih 0 r (by simp at hor ⊢;omega)
    simp only[List.take_zero,List.nil_append,Nat.zero_add]at this
    rw[this,Nat.zero_add]
    rfl
  |succ o =>
   simp only[setL]
   rw[ih o r (by simp at hor;omega),show o+1+r.length=(o+r.length)+1 from by omega]
   simp
set_option maxHeartbeats 1000000 in
theorem cN{e:Ty α}{M:List Nat}{w:World}{xs ys:List α}{a:Option Addr}{n c m:Nat}{x:Value}{ly:List Value}{st st2 te by_:Nat}(hT:oe P st st2 te e.sz by_)
 (hA:bI e M w xs a n c)(hS:sU P e (aj a++M) w ys x m ly)(hroom:(2*(n+m)+768)*by_<=281474976710656){ty:Nat}{Q:Value->World->Prop}
 (h:∀a' c' w',aZ e M w a (xs++ys) a' (n+m) c' w'->Q (.slice a' (n+m) c') w'):
 Ev P (Builtin.append_ #[st,st2] ty #[.slice a n c,x]) w Q:=by
 have hm:=hS.num
 have hf:=hS.flat
 have hlen:=hA.len
 have hcap:=hA.cap
 obtain⟨d2,hd2,hd3⟩:=hT.el2
 obtain⟨i0,hi0,hby⟩:=hT.el.bytes
 obtain⟨z,hz,hzs⟩:=hT.el.zero
 have hfc:=hS.first w (KpL.refl _ _)
 by_cases hfit:n+m<=c
 ·
  cases ha:a with
  |none =>
   subst ha
   have h0:=hA.nil rfl
   have hx:xs=[]:=List.length_eq_zero_iff.1 (by omega)
   have hy0:ys=[]:=List.length_eq_zero_iff.1 (by omega)
   subst hx hy0
   have e1:n=0:=by omega
   have e2:m=0:=by omega
   subst e1 e2 h0
   have hl:ly=[]:=List.length_eq_zero_iff.1 (by rw[hf.1];simp)
   subst hl
   refine⟨.slice none 0 0,w,?_,h none 0 w (aZ.refl hA)⟩
   rcases hd3 with rfl|⟨dk,rfl⟩<;>simp only[Builtin.append_,List.getElem?_toArray,List.getElem?_cons_zero,List.getElem?_cons_succ,Sem.run_bind,ai hT.el.und,Result.andThen_ok,hT.el.size,ai hd2,Sem.run_pure,
    hS.len,Bool.not_false,if_true,hfc,Bool.false_eq_true,if_false,Nat.add_zero,Nat.le_refl]
  |some ad =>
   subst ha
   obtain⟨b,arr,T,rfl,hbM,hblk,harr,hels⟩:=hA.at_ ad rfl
   have hoff:n*e.sz+ly.length<=arr.toList.length:=by
    rw[hf.1,<-hm]
    simp only[Array.length_toList,harr]
    rw[<-Nat.add_mul]
    exact Nat.mul_le_mul_right _ hfit
   have hstore:(storeCells ((⟨b,0,none⟩:Addr).add (n*e.sz)) ly 0).run P w=.ok () (bL w ⟨b,n*e.sz,none⟩ ly 0):=by
    rw[al,Nat.zero_add]
    refine fK _ ly 0 w hf.2.1 (fun k hk=>?_) (fun k hk=>?_)
    ·rw[al,Nat.zero_add,bZ hblk]
     have:n*e.sz+k<arr.size:=by simp only[Array.length_toList]at hoff;omega
     exact⟨arr[n*e.sz+k],by simp[this]⟩
    ·rw[al]
     unfold World.frozen?
     simp only[hblk]
     simp
   have hkp:KpL [b] w (bL w ⟨b,n*e.sz,none⟩ ly 0):=cK w ⟨b,n*e.sz,none⟩ ly
   refine⟨sK b (n+m) c,bL w ⟨b,n*e.sz,none⟩ ly 0,?_,h _ c _ ⟨?_,hkp,fun x hx=>.inl hx⟩⟩
   ·rcases hd3 with rfl|⟨dk,rfl⟩<;>simp only[Builtin.append_,List.getElem?_toArray,List.getElem?_cons_zero,List.getElem?_cons_succ,Sem.run_bind,ai hT.el.und,Result.andThen_ok,hT.el.size,ai hd2,Sem.run_pure,
     hS.len,Bool.not_false,if_true,hfc,Bool.false_eq_true,if_false,hfit,hstore]
   ·have hblk':=je (b:=b) (off:=n*e.sz) ly 0 w arr.toList (by simpa using hblk) (by simpa using hoff)
    refine⟨by simp[hlen,hm],hfit,fun x hx=>by rw[(jr _ _ _ _).1];exact hA.mlt x hx,fun hc=>by simp at hc,fun ad had=>?_⟩
    simp only[Option.some.injEq]at had
    subst had
    refine⟨b,_,T,rfl,hbM,hblk',by simp[eM,harr],?_⟩
    have hfx:iz e (b::M) w xs ((arr.toList.drop 0).take (xs.length*e.sz)):=nu _ rfl hels
    have hfy:iz e (b::M) w ys ly:=by simpa[aj]using hf
    have hall:=mD hfx hfy
    intro i x hx
    obtain⟨cs,h1,h2⟩:=hall.2.2 i x hx
    refine⟨cs,e.mono h1 fun b' hb'=>⟨⟨by rw[(jr _ _ _ _).1];exact hb'.1,hb'.2⟩,?_⟩,fun j v hv=>?_⟩
    ·exact hkp.blk b' hb'.1 (fun hm'=>hb'.2 (by simp at hm';simp[hm']))
    ·have h3:=h2 j v hv
     rw[Nat.zero_add,Nat.add_zero]
     simp only[List.toList_toArray]
     rw[fq _ _ _ hoff]
     have e1:(arr.toList.drop 0).take (xs.length*e.sz)=arr.toList.take (n*e.sz):=by rw[List.drop_zero,hlen]
     rw[e1]at h3
     rw[<-List.append_assoc]
     rw[List.getElem?_append_left (List.getElem?_eq_some_iff.1 h3).1]
     exact h3
 ·
  have hlt:c<n+m:=by omega
  have hnc:=vw hlt
  have hbytes:¬Builtin.nextslicecap (n+m) c*i0.bytes>2 ^ 48:=by
   rw[hby]
   have:Builtin.nextslicecap (n+m) c*by_<=(2*(n+m)+768)*by_:=Nat.mul_le_mul_right _ hnc
   omega
  obtain⟨lx,hfx,hx1,hx2⟩:∃lx,iz e (aj a++M) w xs lx/\(∀ad,a=some ad->n≠0->ao w ad lx)/\(a=none->n=0):=by
   cases ha:a with
   |none =>
    subst ha
    have h0:=hA.nil rfl
    have hx:xs=[]:=List.length_eq_zero_iff.1 (by omega)
    subst hx
    exact⟨[],⟨by simp,by simp,by simp⟩,fun ad had=>by simp at had,fun _=>by omega⟩
   |some ad =>
    subst ha
    obtain⟨b,arr,T,rfl,hbM,hblk,harr,hels⟩:=hA.at_ ad rfl
    refine⟨_,nu _ rfl hels,fun ad had _=>?_,fun hc=>by cases hc⟩
    simp only[Option.some.injEq]at had
    subst had
    exact jq (by simpa using hblk) 0 _
  have hkd:KpL [] w w.drew:=(KpL.refl _ _).drew
  have hfc0:(Builtin.firstCells e.sz n (.slice a n c)).run P w.drew=.ok lx.toArray w.drew :=
   dm (by rw[hfx.1,hlen]) (fun ad had hne=>(hx1 ad had hne).kp hkd) hx2
  have hfc1:=hS.first w.drew hkd
  generalize hcut:(Question.appendCap (n+m) c te).cut (w.tape w.drawn (.appendCap (n+m) c te))=newCap
  have hge:n+m<=newCap:=by rw[<-hcut];simp only[Question.cut];omega
  have hforced:(Question.appendCap (n+m) c te).forced=false:=rfl
  have hchoose:(choose (Question.appendCap (n+m) c te)).run P w=.ok newCap w.drew:=by
   rw[run_choose,hforced,hcut];rfl
  have hb0:¬(i0.bytes=0):=by rw[hby];exact hT.pos
  have hnf:¬n+m<=c:=hfit
  let rest:=(Builtin.zeroCells z.cells (newCap - (n+m))).toList
  have hrest:rest.length=(newCap - (n+m))*e.sz:=by simp[rest,nG,hzs]
  let o:Obj:=.cells (lx++(ly++rest)).toArray te (0,0)
  refine⟨.slice (some ⟨w.heap.size,0,none⟩) (n+m) newCap,w.drew.alloc o,?_,h _ newCap _ ⟨?_,(KpL.refl _ _).drew.alloc o,?_⟩⟩
  ·rcases hd3 with rfl|⟨dk,rfl⟩<;>simp only[Builtin.append_,List.getElem?_toArray,List.getElem?_cons_zero,List.getElem?_cons_succ,Sem.run_bind,ai hT.el.und,Result.andThen_ok,hT.el.size,ai hd2,Sem.run_pure,
    hS.len,Bool.not_false,if_true,Bool.false_eq_true,if_false,hnf,hi0,hb0,or_self,and_false,hbytes,hchoose,run_askRoom,hfc0,hfc1,hz,newRow,run_newObj]
   all_goals (simp only[o,rest,World.alloc,World.drew];congr 3;simp)
  ·have hself:(w.drew.alloc o).heap[w.heap.size]?=some o:=by
    show(w.heap.push o)[w.heap.size]?=some o
    simp
   refine⟨by simp[hlen,hm],hge,fun x hx=>Nat.lt_of_lt_of_le (hA.mlt x hx) ((KpL.refl [] w).drew.alloc o).size,fun hc=>by simp at hc,fun ad had=>?_⟩
   simp only[Option.some.injEq]at had
   subst had
   refine⟨w.heap.size,_,te,rfl,?_,hself,?_,?_⟩
   ·intro hm';have:=hA.mlt _ hm';omega
   ·simp only[List.size_toArray,List.length_append,hfx.1,hf.1,hrest,<-hlen,<-hm]
    rw[<-Nat.add_mul,<-Nat.add_mul]
    congr 1
    omega
   ·have hall:iz e (aj a++M) w (xs++ys) (lx++ly):=mD hfx hf
    have:=iz.els (w':=w.drew.alloc o) (t:=rest) (A:=Av (w.heap.size::M) (w.drew.alloc o)) hall fun b hb hbM=>⟨⟨?_,?_⟩,?_⟩
    ·simpa[List.append_assoc]using this
    ·show b<(w.heap.push o).size
     simp;omega
    ·intro hm'
     rcases List.mem_cons.1 hm' with rfl|hm'
     ·omega
     ·exact hbM (List.mem_append_right _ hm')
    ·exact((KpL.refl [] w).drew.alloc o).blk b hb (by simp)
  ·intro b hb
   simp[aj]at hb
   subst hb
   exact .inr (Nat.le_refl _)
theorem qC{M:List Nat}{w:World}{xs:List Int}{s:ByteArray}{a:Option Addr}{n c:Nat}{st st2 te by_:Nat}(hT:oe P st st2 te 1 by_)
 (hA:bI (tI .u8) M w xs a n c)(hroom:(2*(n+s.size)+768)*by_<=281474976710656){ty:Nat}{Q:Value->World->Prop}
 (h:∀a' c' w',aZ (tI .u8) M w a (xs++cB s) a' (n+s.size) c' w'->Q (.slice a' (n+s.size) c') w'):
 Ev P (Builtin.append_ #[st,st2] ty #[.slice a n c,.string s]) w Q :=
 cN hT hA (zM s) hroom h
theorem ak{w:World}{b:Nat}{cs:List Value}{T:TypeId}{fz:Nat×Nat}(h:w.heap[b]?=some (.cells cs.toArray T fz))(off:Nat)(l:List Value)(hl:(cs.drop off).take l.length=l):ao w ⟨b,off,none⟩ l:=by
 have:=jq h off l.length
 rwa [hl]at this
theorem sj{e:Ty α}{M:List Nat}{w:World}{x:α}{cs:List Value}{k T:Nat}(hk:w.heap[k]?=some (.cells cs.toArray T (0,0)))(h:R e M w x cs):sU P e M w [x] (sK k 1 1) 1 cs:=by
 have hf:iz e M w [x] cs:=⟨by simp[h.len],e.one h,fun i y hy=>by
  cases i with
  |zero =>
   simp at hy
   subst hy
   exact⟨cs,h,fun j v hv=>by simpa using hv⟩
  |succ i=>simp at hy⟩
 refine⟨fun w=>by simp[Builtin.lenOf],by simp,hf,fun w' hkp=>dm (by rw[hf.1];simp) (fun ad had _=>?_) (fun hn=>by cases hn)⟩
 simp only[Option.some.injEq]at had
 subst had
 refine⟨fun i v hv=>?_⟩
 have hk':w'.heap[k]?=some (.cells cs.toArray T (0,0)):=by rw[hkp.blk k (ab hk) (by simp)];exact hk
 rw[al,bZ hk']
 simpa using hv
theorem aD{e:Ty α}{M:List Nat}{w:World}{xs:List α}{x:α}{cs:List Value}{a:Option Addr}{n c k T:Nat}{st te by_:Nat}(hT:oe P st st te e.sz by_)
 (hA:bI e M w xs a n c)(hk:w.heap[k]?=some (.cells cs.toArray T (0,0)))(hx:R e (aj a++M) w x cs)
 (hroom:(2*(n+1)+768)*by_<=281474976710656){ty:Nat}{Q:Value->World->Prop}
 (h:∀a' c' w',aZ e M w a (xs++[x]) a' (n+1) c' w'->Q (.slice a' (n+1) c') w'):
 Ev P (Builtin.append_ #[st,st] ty #[.slice a n c,sK k 1 1]) w Q :=
 cN hT hA (sj hk hx) hroom h
end Go.Vc
namespace Go.Vc
open Go
theorem bC{n:Int}:ar .u8 n↔0<=n/\n<=255:=⟨fun h=>⟨h.lo,h.hi⟩,fun h=>⟨h.1,h.2⟩⟩
theorem aJ{n:Int}:ar .u64 n↔0<=n/\n<=18446744073709551615:=⟨fun h=>⟨h.lo,h.hi⟩,fun h=>⟨h.1,h.2⟩⟩
theorem ae{n:Int}:ar .i64 n↔-9223372036854775808<=n/\n<=9223372036854775807:=⟨fun h=>⟨h.lo,h.hi⟩,fun h=>⟨h.1,h.2⟩⟩
theorem jn(n:Int):IntKind.u8.wrap n=n%256:=rfl
theorem sq(n:Int):IntKind.u64.wrap n=n%18446744073709551616:=rfl
theorem gy(k:IntKind)(n:Int):ar k (k.wrap n):=by
 have h2:∀m:Int,∀p:Int,0<p->0<=m%p/\m%p<p:=fun m p hp=>⟨Int.emod_nonneg _ (by omega),Int.emod_lt_of_pos _ hp⟩
 cases k
 all_goals first
  |(have h:=h2 n 256 (by omega);exact⟨show(0:Int)<=n%256 from h.1,show n%256<=(255:Int) by omega⟩)
  |(have h:=h2 n 65536 (by omega);exact⟨show(0:Int)<=n%65536 from h.1,show n%65536<=(65535:Int) by omega⟩)
  |(have h:=h2 n 4294967296 (by omega);exact⟨show(0:Int)<=n%4294967296 from h.1,show n%4294967296<=(4294967295:Int) by omega⟩)
  |(have h:=h2 n 18446744073709551616 (by omega);exact⟨show(0:Int)<=n%18446744073709551616 from h.1,show n%18446744073709551616<=(18446744073709551615:Int) by omega⟩)
  |(have h:=h2 n 256 (by omega)
    have e:IntKind.wrap .i8 n=(if n%256≥128 then n%256 - 256 else n%256):=by
     show(if (true&&decide (n%256≥128))=true then n%256 - 256 else n%256)=_
     simp only[Bool.true_and,decide_eq_true_eq]
    constructor
    ·rw[e];show(-128:Int)<=_;split<;>omega
    ·rw[e];show _<=(127:Int);split<;>omega)
  |(have h:=h2 n 65536 (by omega)
    have e:IntKind.wrap .i16 n=(if n%65536≥32768 then n%65536 - 65536 else n%65536):=by
     show(if (true&&decide (n%65536≥32768))=true then n%65536 - 65536 else n%65536)=_
     simp only[Bool.true_and,decide_eq_true_eq]
    constructor
    ·rw[e];show(-32768:Int)<=_;split<;>omega
    ·rw[e];show _<=(32767:Int);split<;>omega)
  |(have h:=h2 n 4294967296 (by omega)
    have e:IntKind.wrap .i32 n=(if n%4294967296≥2147483648 then n%4294967296 - 4294967296 else n%4294967296):=by
     show(if (true&&decide (n%4294967296≥2147483648))=true then n%4294967296 - 4294967296 else n%4294967296)=_
     simp only[Bool.true_and,decide_eq_true_eq]
    constructor
    ·rw[e];show(-2147483648:Int)<=_;split<;>omega
    ·rw[e];show _<=(2147483647:Int);split<;>omega)
  |(have h:=h2 n 18446744073709551616 (by omega)
    have e:IntKind.wrap .i64 n=(if n%18446744073709551616≥9223372036854775808 then n%18446744073709551616 - 18446744073709551616 else n%18446744073709551616):=by
     show(if (true&&decide (n%18446744073709551616≥9223372036854775808))=true then n%18446744073709551616 - 18446744073709551616 else n%18446744073709551616)=_
     simp only[Bool.true_and,decide_eq_true_eq]
    constructor
    ·rw[e];show(-9223372036854775808:Int)<=_;split<;>omega
    ·rw[e];show _<=(9223372036854775807:Int);split<;>omega)
theorem xb:((List.range 256).all fun i=>aX .or .u8 (i:Int) 128 == (i:Int)%128+128)=true:=by kernel_rfl
theorem vA:((List.range 256).all fun i=>aX .and .u8 (i:Int) 127 == (i:Int)%128)=true:=by kernel_rfl
theorem E1{x:Int}(h0:0<=x)(h1:x<256):aX .or .u8 x 128=x%128+128:=by
 have:=List.all_eq_true.1 xb x.toNat (by simp;omega)
 simpa only[Int.toNat_of_nonneg h0,beq_iff_eq]using this
theorem Bx{x:Int}(h0:0<=x)(h1:x<256):aX .and .u8 x 127=x%128:=by
 have:=List.all_eq_true.1 vA x.toNat (by simp;omega)
 simpa only[Int.toNat_of_nonneg h0,beq_iff_eq]using this
theorem eU{n:Int}{m:Nat}:n.fdiv ((2 ^ m:Nat):Int)=n / ((2 ^ m:Nat):Int):=Int.fdiv_eq_ediv_of_nonneg _ (by exact Int.natCast_nonneg _)
def dW(x:Int):Int:=if 0<=x then 2*x else -2*x - 1
theorem DT{x:Int}(h:ar .i64 x):
 aX .xor .u64 (IntKind.wrap .u64 (IntKind.wrap .u64 x*(((2:Nat) ^ (1:Nat):Nat):Int))) (IntKind.wrap .u64 (Int.fdiv x (((2:Nat) ^ (63:Nat):Nat):Int)))=dW x:=by
 rw[ae]at h
 have e63:Int.fdiv x (((2:Nat) ^ (63:Nat):Nat):Int)=x / 9223372036854775808:=by rw[eU];rfl
 have e1:IntKind.wrap .u64 (IntKind.wrap .u64 x*(((2:Nat) ^ (1:Nat):Nat):Int))=(2*x)%18446744073709551616:=by
  show(x%18446744073709551616*2)%18446744073709551616=_
  omega
 rw[e1,e63,sq]
 unfold dW aX
 show IntKind.wrap .u64 (((BitVec.ofInt 64 (2*x%18446744073709551616)) ^^^ (BitVec.ofInt 64 (x / 9223372036854775808%18446744073709551616))).toNat:Int)=_
 rw[sq]
 split
 ·rename_i h0
  have e2:x / 9223372036854775808=0:=by omega
  rw[e2]
  have e3:BitVec.ofInt 64 ((0:Int)%18446744073709551616)=0#64:=by decide
  rw[e3,BitVec.xor_zero,BitVec.toNat_ofInt]
  have e4:((2 ^ 64:Nat):Int)=18446744073709551616:=by decide
  rw[e4]
  omega
 ·rename_i h0
  have e2:x / 9223372036854775808 = -1:=by omega
  rw[e2]
  have e3:BitVec.ofInt 64 ((-1:Int)%18446744073709551616)=BitVec.allOnes 64:=by decide
  rw[e3,BitVec.xor_allOnes,BitVec.toNat_not,BitVec.toNat_ofInt]
  have e4:((2 ^ 64:Nat):Int)=18446744073709551616:=by decide
  have e5:(2 ^ 64:Nat)=18446744073709551616:=by decide
  rw[e4,e5]
  omega
theorem yQ{x:Int}(h:ar .i64 x):ar .u64 (dW x):=by
 rw[ae]at h
 rw[aJ]
 unfold dW
 split<;>omega
def AO(n:Int):Int:=if n%2=0 then n / 2 else -(n / 2) - 1
theorem xC(x:Int):AO (dW x)=x:=by
 unfold AO dW
 split<;>split<;>omega
end Go.Vc
namespace Go.Vc
open Go
variable {α β:Type} {P:Program}
structure EZ (P:Program) (st te:Nat) (z0:Value) (by_:Nat):Prop where
 und:P.underlying st=some (.slice te)
 size:∀w,(sizeOf te).run P w=.ok 1 w
 bytes:∃i,(∀w,(typeInfo te).run P w=.ok i w)/\i.bytes=by_
 zero:∃z,(∀w,(zeroValue te).run P w=.ok z w)/\z.cells=#[z0]
theorem zU{st te by_:Nat}{z0:Value}{i:TypeInfo}{z:Value}(hu:P.underlying st=some (.slice te))(hi:P.info? te=some i)(hz:i.zero=some z)(hc:z.cells=#[z0])(hs:i.size=1)(hb:i.bytes=by_):
 EZ P st te z0 by_ :=
 ⟨hu,fun w=>by simp[sizeOf,aW hi,hs],⟨i,fun w=>aW hi w,hb⟩,⟨z,fun w=>by simp[zeroValue,aW hi,hz],hc⟩⟩
theorem CG{st te by_:Nat}{z0 z:Value}(hu:P.underlying st=some (.slice te))(h1:(P.info? te).map (fun i=>(i.size,i.bytes))=some (1,by_))(h2:(P.info? te).bind (·.zero)=some z)(hc:z.cells=#[z0]):EZ P st te z0 by_:=by
 obtain⟨i,hi,he⟩:=Option.map_eq_some_iff.1 h1
 rw[hi,Option.bind_some]at h2
 simp only[Prod.mk.injEq]at he
 exact zU hu hi h2 hc he.1 he.2
theorem dT{st te by_:Nat}{z0:Value}(hT:EZ P st te z0 by_){w:World}{n:Int}(h0:0<=n)(h1:n<=1099511627776)(hb:by_<=100){Q:Value->World->Prop}
 (h:∀w',w'.heap[w.heap.size]?=some (.cells (List.replicate n.toNat z0).toArray te (0,0))->KpL [] w w'->Q (.slice (some ⟨w.heap.size,0,none⟩) n.toNat n.toNat) w'):
 Ev P (Instr.makeSlice st (iv n) (iv n)) w Q:=by
 obtain⟨i0,hi0,hby⟩:=hT.bytes
 obtain⟨z,hz,hzs⟩:=hT.zero
 have hwr:IntKind.i64.wrap n=n:=aE (ae.2 (by omega))
 have hmul:(i0.bytes:Int)*n<=109951162777600:=by
  rw[hby]
  calc (by_:Int)*n<=100*n:=Int.mul_le_mul_of_nonneg_right (by omega) h0
   _<=_:=by omega
 have hrun:(Instr.makeSlice st (iv n) (iv n)).run P w=.ok (.slice (some ⟨w.heap.size,0,none⟩) n.toNat n.toNat) (w.alloc (.cells (List.replicate n.toNat z0).toArray te (0,0))):=by
  have c1:(decide (n<0) || decide ((i0.bytes:Int)*n>2 ^ 48))=false:=by
   have:¬n<0:=by omega
   have h2:(i0.bytes:Int)*n<=281474976710656:=by omega
   simp[this]
   exact h2
  have c3:(n<0 || n>n)=false:=by simp;omega
  have e1:n.toNat*1=n.toNat:=Nat.mul_one _
  have hcells:(Array.range n.toNat).map (fun x=>(if n.toNat=0 then (#[]:Array Value) else #[z0])[x%(if n.toNat=0 then (#[]:Array Value) else #[z0]).size]!)=(List.replicate n.toNat z0).toArray:=by
   by_cases hn:n.toNat=0
   ·simp[hn]
   ·simp only[hn,if_false]
    apply Array.ext
    ·simp
    ·intro i h1 h2
     simp[Nat.mod_one]
  simp only[Instr.makeSlice,Sem.run_bind,ai hT.und,Result.andThen_ok,asInt,asIntOf,Sem.run_pure,hi0,hwr,c1,Bool.false_or,hT.size,e1]
  have c4:¬(n<0):=by omega
  simp only[c4,decide_false,gt_iff_lt,Int.lt_irrefl,Bool.or_self,Bool.false_eq_true,if_false,Sem.run_bind,run_askRoom,Result.andThen_ok,hT.size,e1]
  by_cases hn:n.toNat=0
  ·simp only[hn,if_true,Sem.run_bind,Sem.run_pure,Result.andThen_ok,newRow,run_newObj]
   have e0:Array.map (fun x=>(#[]:Array Value)[x%(#[]:Array Value).size]!) (Array.range 0)=(List.replicate 0 z0).toArray:=by simp
   rw[e0]
   rfl
  ·simp only[hn,if_false]at hcells
   simp only[hn,if_false,Sem.run_bind,hz,Sem.run_pure,Result.andThen_ok,newRow,run_newObj,hzs,hcells]
   rfl
 refine⟨_,_,hrun,h _ ?_ ((KpL.refl _ _).alloc _)⟩
 show(w.heap.push _)[w.heap.size]?=_
 simp
theorem eW{k:IntKind}{M:List Nat}{w:World}{xs:List Int}{l:List Value}(h:iz (tI k) M w xs l):l=xs.map (Value.int k):=by
 have hl:l.length=xs.length:=by rw[h.1];exact Nat.mul_one _
 apply List.ext_getElem?
 intro i
 by_cases hi:i<xs.length
 ·obtain⟨cs,⟨rfl,_⟩,h2⟩:=h.2.2 i xs[i] (by simp[hi])
  have:=h2 0 (.int k xs[i]) rfl
  rw[show i*(tI k).sz+0=i from by show i*1+0=i;omega]at this
  rw[this]
  simp[hi]
 ·rw[List.getElem?_eq_none (by omega),List.getElem?_eq_none (by simp;omega)]
theorem jy{e:Ty α}{M:List Nat}{w:World}{ys:List α}{a2:Option Addr}{b off dn dc m c2 T:Nat}{arr:List Value}{st st2 te by_:Nat}(hT:Dj P st te e.sz by_)
 (hblk:w.heap[b]?=some (.cells arr.toArray T (0,0)))(hfit:off+dn*e.sz<=arr.length)(hy:R (au e) M w ys [.slice a2 m c2]){ty:Nat}{Q:Value->World->Prop}
 (h:∀w' ly,iz e M w (ys.take (min m dn)) ly->w'.heap[b]?=some (.cells (arr.take off++(ly++arr.drop (off+ly.length))).toArray T (0,0))->KpL [b] w w'->Q (iv (min m dn:Nat)) w'):
 Ev P (Builtin.copy_ #[st,st2] ty #[.slice (some ⟨b,off,none⟩) dn dc,.slice a2 m c2]) w Q:=by
 obtain⟨hm,hm2,hm3⟩:=hy.sl_len
 have hmin:Nat.min m dn=min m dn:=rfl
 obtain⟨ly,hf,hl⟩:∃ly,iz e M w (ys.take (min m dn)) ly/\(Builtin.firstCells e.sz (min m dn) (.slice a2 m c2)).run P w=.ok ly.toArray w:=by
  obtain⟨l,hf,hl1,hl2⟩:=hy.flat
  refine⟨l.take ((min m dn)*e.sz),⟨?_,fun v hv=>hf.2.1 v (List.mem_of_mem_take hv),fun i x hx=>?_⟩,?_⟩
  ·rw[List.length_take,hf.1,List.length_take,<-hm]
   have:min m dn*e.sz<=m*e.sz:=Nat.mul_le_mul_right _ (Nat.min_le_left _ _)
   rw[Nat.min_eq_left this,Nat.min_eq_left (Nat.min_le_left m dn)]
  ·have hi:i<min m dn:=by
    have:=(List.getElem?_eq_some_iff.1 hx).1
    rw[List.length_take]at this
    omega
   rw[List.getElem?_take,if_pos hi]at hx
   obtain⟨cs,h1,h2⟩:=hf.2.2 i x hx
   refine⟨cs,h1,fun j v hv=>?_⟩
   have hj:j<e.sz:=by rw[<-R.len h1];exact(List.getElem?_eq_some_iff.1 hv).1
   have:i*e.sz+j<min m dn*e.sz:=by
    calc i*e.sz+j<i*e.sz+e.sz:=by omega
     _=(i+1)*e.sz:=by rw[Nat.add_mul];omega
     _<=_:=Nat.mul_le_mul_right _ hi
   rw[List.getElem?_take,if_pos this]
   exact h2 j v hv
  ·refine dm ?_ (fun ad had hne=>⟨fun k v hv=>?_⟩) (fun hn=>?_)
   ·rw[List.length_take,hf.1,<-hm]
    exact Nat.min_eq_left (Nat.mul_le_mul_right _ (Nat.min_le_left _ _))
   ·have hne':ys≠[]:=by rintro rfl;simp at hm;subst hm;simp at hne
    refine(hl1 ad had hne').at_ k v ?_
    rw[List.getElem?_take]at hv
    split at hv
    ·exact hv
    ·cases hv
   ·have:=hl2 hn;subst this;simp at hm;subst hm;simp
 have hlen:ly.length=min m dn*e.sz:=by
  rw[hf.1,List.length_take,<-hm,Nat.min_eq_left (Nat.min_le_left m dn)]
 have hfit':off+ly.length<=arr.length:=by
  rw[hlen]
  have:min m dn*e.sz<=dn*e.sz:=Nat.mul_le_mul_right _ (Nat.min_le_right _ _)
  omega
 have hstore:(storeCells (⟨b,off,none⟩:Addr) ly 0).run P w=.ok () (bL w ⟨b,off,none⟩ ly 0):=by
  refine fK _ ly 0 w hf.2.1 (fun k hk=>?_) (fun k hk=>?_)
  ·rw[al,Nat.zero_add,bZ hblk]
   have:off+k<arr.length:=by omega
   exact⟨arr[off+k],by simp[this]⟩
  ·rw[al]
   unfold World.frozen?
   simp only[hblk]
   simp
 have hkp:KpL [b] w (bL w ⟨b,off,none⟩ ly 0):=cK w ⟨b,off,none⟩ ly
 refine⟨iv (min m dn:Nat),bL w ⟨b,off,none⟩ ly 0,?_,h _ ly hf ?_ hkp⟩
 ·simp only[Builtin.copy_,List.getElem?_toArray,List.getElem?_cons_zero,List.getElem?_cons_succ,Sem.run_bind,ai hT.und,Result.andThen_ok,Builtin.lenOf,Sem.run_pure,hT.size,hmin,hl,hstore,goInt]
 ·have:=je (b:=b) (off:=off) ly 0 w arr (by simpa using hblk) (by simpa using hfit')
  rw[Nat.add_zero,fq _ _ _ hfit']at this
  exact this
theorem dq{st te sz by_:Nat}(hT:Dj P st te sz by_){a:Option Addr}{n c l h:Nat}{lo hi:Option Value}(hlo:lo=some (iv l)∨lo=none/\l=0)(hhi:hi=some (iv h)∨hi=none/\h=n)(h1:l<=h)(h2:h<=c):
 Pv P (Instr.sliceAt st (.slice a n c) lo hi none) (.slice (if c=l then a else a.map (·.add (l*sz))) (h - l) (c - l)):=by
 refine⟨fun w=>?_⟩
 have hb:∀w,(Instr.sliceBounds true n c lo hi none).run P w=.ok (l,h,c) w:=by
  intro w
  have hc1:(0:Int)<=(h:Int)/\(h:Int)<=(c:Int):=by omega
  have hc2:(0:Int)<=(l:Int)/\(l:Int)<=(h:Int):=by omega
  rcases hhi with rfl|⟨rfl,rfl⟩<;>rcases hlo with rfl|⟨rfl,rfl⟩ <;>
   simp only[Instr.sliceBounds,Instr.sliceBound,Sem.run_bind,Sem.run_pure,Result.andThen_ok,asIntOf,Option.isSome_none,Bool.false_eq_true,if_false,if_true,hc1,hc2,and_self,Int.toNat_natCast]
 simp only[Instr.sliceAt,Sem.run_bind,ai hT.und,Result.andThen_ok,Instr.slice,hb,hT.size,Sem.run_pure]
theorem iF{at_ te sz len:Nat}(hu:P.underlying at_=some (.array len te))(hs:∀w,(sizeOf te).run P w=.ok sz w){ad:Addr}{l h:Nat}{lo hi:Option Value}(hlo:lo=some (iv l)∨lo=none/\l=0)
 (hhi:hi=some (iv h)∨hi=none/\h=len)(h1:l<=h)(h2:h<=len):
 Pv P (Instr.sliceAt at_ (.pointer (some ad)) lo hi none) (.slice (some (if len=l then ad else ad.add (l*sz))) (h - l) (len - l)):=by
 refine⟨fun w=>?_⟩
 have hb:∀w,(Instr.sliceBounds false len len lo hi none).run P w=.ok (l,h,len) w:=by
  intro w
  have hc1:(0:Int)<=(h:Int)/\(h:Int)<=(len:Int):=by omega
  have hc2:(0:Int)<=(l:Int)/\(l:Int)<=(h:Int):=by omega
  rcases hhi with rfl|⟨rfl,rfl⟩<;>rcases hlo with rfl|⟨rfl,rfl⟩ <;>
   simp only[Instr.sliceBounds,Instr.sliceBound,Sem.run_bind,Sem.run_pure,Result.andThen_ok,asIntOf,Option.isSome_none,Bool.false_eq_true,if_false,if_true,hc1,hc2,and_self,Int.toNat_natCast]
 simp only[Instr.sliceAt,Sem.run_bind,ai hu,Result.andThen_ok,Instr.sureAddr,hb,hs,Sem.run_pure]
theorem R.sub{e:Ty α}{M:List Nat}{w:World}{xs:List α}{a:Option Addr}{n c:Nat}(hR:R (au e) M w xs [.slice a n c])(l h:Nat)(h1:l<=h)(h2:h<=n):
 R (au e) M w ((xs.drop l).take (h - l)) [.slice (if c=l then a else a.map (·.add (l*e.sz))) (h - l) (c - l)]:=by
 obtain⟨a',c',he,hc,hx,h4⟩:=hR
 simp only[List.cons.injEq,Value.slice.injEq,and_true]at he
 obtain⟨rfl,rfl,rfl⟩:=he
 have hlen:((xs.drop l).take (h - l)).length=h - l:=by simp;omega
 refine⟨_,_,by rw[hlen],by rw[hlen];omega,by rw[hlen];omega,fun hne=>?_⟩
 have hlt:l<h:=by
  rcases Nat.lt_or_ge l h with hl|hl
  ·exact hl
  ·exfalso;apply hne;rw[show h - l=0 from by omega];simp
 obtain⟨b,off,arr,T,fz,rfl,hA,hh,hel⟩:=h4 (by rintro rfl;simp at h2;omega)
 rw[if_neg (by omega)]
 refine⟨b,off+l*e.sz,arr,T,fz,by rw[Option.map_some,al],hA,hh,fun i x hi=>?_⟩
 rw[List.getElem?_take]at hi
 split at hi
 ·rw[List.getElem?_drop]at hi
  obtain⟨cs,h5,h6⟩:=hel (l+i) x hi
  refine⟨cs,h5,fun j v hv=>?_⟩
  have:=h6 j v hv
  rw[Nat.add_mul]at this
  rw[show off+l*e.sz+i*e.sz+j=off+(l*e.sz+i*e.sz)+j from by omega]
  exact this
 ·cases hi
theorem R.ofBlk{k:IntKind}{M:List Nat}{w:World}{bs:List Int}{rest:List Value}{b c T:Nat}(hb:w.heap[b]?=some (.cells (bs.map (Value.int k)++rest).toArray T (0,0)))(hM:b∉M)(hok:∀x∈bs,ar k x)(hc:bs.length<=c)(hm:bs.length<=az):
 R (au (tI k)) M w bs [sK b bs.length c]:=by
 refine⟨_,_,rfl,hc,hm,fun _=>⟨b,0,_,T,_,rfl,⟨ab hb,hM⟩,hb,fun i x hx=>⟨[.int k x],⟨rfl,hok x (List.mem_of_getElem? hx)⟩,fun j v hv=>?_⟩⟩⟩
 cases j with
 |zero =>
  simp at hv
  subst hv
  show((bs.map (Value.int k)++rest).toArray.toList)[0+i*1+0]?=_
  have hi:i<bs.length:=(List.getElem?_eq_some_iff.1 hx).1
  rw[show 0+i*1+0=i from by omega,List.toList_toArray,List.getElem?_append_left (by simpa using hi)]
  simp[hx]
 |succ j=>simp at hv
theorem R.ints{k:IntKind}{M:List Nat}{w:World}{bs:List Int}{cs:List Value}(h:R (au (tI k)) M w bs cs):∀x∈bs,ar k x:=by
 obtain⟨a,c,_,_,_,h4⟩:=h
 intro x hx
 obtain⟨b,off,arr,T,fz,_,_,_,he⟩:=h4 (by rintro rfl;simp at hx)
 obtain⟨i,hi,rfl⟩:=List.getElem_of_mem hx
 obtain⟨cs,⟨_,h5⟩,_⟩:=he i bs[i] (by simp[hi])
 exact h5
theorem iZ{T:Nat}{z:List Value}(hz:∃zv,(∀w,(zeroValue T).run P w=.ok zv w)/\zv.cells=z.toArray){w:World}{Q:Value->World->Prop}
 (h:∀w',w'.heap[w.heap.size]?=some (.cells z.toArray T (0,0))->KpL [] w w'->Q (.pointer (some ⟨w.heap.size,0,none⟩)) w'):Ev P (Instr.alloc T true (.tuple #[])) w Q:=by
 obtain⟨zv,hz1,hz2⟩:=hz
 refine⟨_,w.alloc (.cells z.toArray T (0,0)),?_,h _ ?_ ((KpL.refl _ _).alloc _)⟩
 ·simp only[Instr.alloc,Sem.run_bind,hz1,Result.andThen_ok,newVar,newRow,run_newObj,Sem.run_pure,hz2]
  rfl
 ·show(w.heap.push _)[w.heap.size]?=_
  simp
theorem vr{at_ te len n c:Nat}(hu:P.underlying at_=some (.array len te)){w:World}{a:Option Addr}(hn:len<=n){Q:Value->World->Prop}(h:Q (.pointer a) w):Ev P (Instr.arrayAt at_ (.slice a n c)) w Q:=by
 refine⟨_,w,?_,h⟩
 simp only[Instr.arrayAt,Sem.run_bind,ai hu,Result.andThen_ok]
 rw[if_neg (by omega)]
 rfl
theorem cL{w:World}{b off:Nat}{l arr:List Value}{T:TypeId}{fz:Nat×Nat}(h:w.heap[b]?=some (.cells arr.toArray T fz))(hf:off+l.length<=arr.length):
 (bL w ⟨b,off,none⟩ l 0).heap[b]?=some (.cells (arr.take off++(l++arr.drop (off+l.length))).toArray T fz):=by
 have:=je (b:=b) (off:=off) l 0 w arr h (by simpa using hf)
 rw[Nat.add_zero,fq _ _ _ hf]at this
 exact this
theorem bE{w:World}{b off n T:Nat}{arr:Array Value}(h:w.heap[b]?=some (.cells arr T (0,0))):aq w ⟨b,off,none⟩ n:=by
 refine⟨fun i hi=>?_⟩
 rw[al]
 unfold World.frozen?
 simp only[h]
 simp
theorem pR{pl:Nat->Option (Nat×Nat)}{i off size:Nat}{v:V}{cs l:List C}(hp:pl i=some (off,size))(hv:iG v=some cs)(hs:cs.length=size)(hle:off+size<=l.length)(r:List (Nat×V)):
 im pl l ((i,v)::r)=im pl (setL l off cs) r:=by
 simp only[im,hp,hv]
 rw[show Nat.beq cs.length size=true from by rw[Nat.beq_eq];exact hs,show Nat.ble (off+cs.length) l.length=true from by rw[Nat.ble_eq];omega]
theorem xB{st te sz by_:Nat}(hT:Dj P st te sz by_)(hsz:0<sz)(hsz2:sz<=1000){l:List Value}(hl:l.length=sz){w:World}{Q:Value->World->Prop}
 (h:∀w',w'.heap[w.heap.size]?=some (.cells l.toArray te (0,0))->KpL [] w w'->Q (.slice (some ⟨w.heap.size,0,none⟩) 1 1) w'):Ev P (Instr.buildSlice st 1 #[(0,.agg l.toArray)]) w Q:=by
 obtain⟨z,hz,hzs⟩:=hT.zero
 have hfill:Instr.fill (fun i=>some (i*sz,sz)) ((Array.range (1*sz)).map (z.cells[· % z.cells.size]!)) [(0,.agg l.toArray)]=some l.toArray:=by
  have hz':∀a:Array Value,a.size=sz->Instr.fill (fun i=>some (i*sz,sz)) a [(0,.agg l.toArray)]=some l.toArray:=by
   intro a ha
   have e1:(Value.agg l.toArray).cells=l.toArray:=rfl
   simp only[Instr.fill,e1,List.size_toArray,hl,Nat.zero_mul,Nat.zero_add,ha]
   rw[if_neg (by simp)]
   have:=j4 0 l 0 a.toList (by simp;omega)
   rw[<-Array.foldl_toList,Array.toList_zipIdx]
   simp only[Nat.zero_add,Nat.add_zero]at this
   simp only[List.toList_toArray]
   rw[this,fq _ _ _ (by simp;omega)]
   simp[hl,<-ha]
  exact hz' _ (by simp)
 refine⟨_,w.alloc (.cells l.toArray te (0,0)),?_,h _ ?_ ((KpL.refl _ _).alloc _)⟩
 ·have h1:¬(1*sz>2 ^ 24):=by omega
  have h2:¬(1*sz=0):=by omega
  simp only[Instr.buildSlice,Sem.run_bind,ai hT.und,Result.andThen_ok,hT.size,h1,h2,if_false,hz,Sem.run_pure,hfill,newRow,run_newObj]
  rfl
 ·show(w.heap.push _)[w.heap.size]?=_
  simp
end Go.Vc
namespace Go.Vc
open Go Go.Proofs
open Go.Value Go.Ending Go.IntKind
set_option maxRecDepth 100000
abbrev av(x:Value):V:=.a (.c (.v x))
theorem fz(an:Eh)(args:List V){f:Nat}{fn:Func}(hf:Zz.funcs[f]?=some fn){w:World}{R:Ending->World->Prop}{vc:Prop}{vs:Array Value}(h:vc)(he:EO Zz an fn args [] [] w R=vc:=by kernel_rfl)(ha:Ai 0 args=true:=by exact rfl)(hv:(dY [] args).toArray=vs:=by exact rfl):Calls Zz f vs w R:=Fk aS hf he ha hv h
section
variable{w:World}{R:Ending->World->Prop}
theorem xH{a:Option Addr}{n c:Nat}{x:Int}
 (h :
 ∃(P1:LP)(P2:LM),P1 [slice a n c,int u64 x] w/\∀a1 k1 k2 n1 w1,P1 [slice a1 k1 k2,int u64 n1] w1->(128<=n1->∀k3,w1.heap.size<=k3->∀w2,KpL [] w1 w2->Hb w2 k3 #[int u8 (aX BinOp.or u8 (u8.wrap n1) 128)] 5->Ev Zz (Builtin.append_ #[33,33] 33 #[slice a1 k1 k2,sK k3 1 1]) w2 fun y1 w3 =>
 ∃a2 k4 k5,y1=slice a2 k4 k5/\∃l1,KpL l1 w2 w3/\af k3 l1/\P1 [slice a2 k4 k5,int u64 (n1.fdiv (↑((2:Nat) ^ (7:Nat)):Int))] w3/\P2 [slice a2 k4 k5,int u64 (n1.fdiv (↑((2:Nat) ^ (7:Nat)):Int))] w3<P2 [slice a1 k1 k2,int u64 n1] w1)/\(¬128<=n1->∀k6,w1.heap.size<=k6->∀w4,KpL [] w1 w4->Hb w4 k6 #[int u8 (u8.wrap n1)] 5->Ev Zz (Builtin.append_ #[33,33] 33 #[slice a1 k1 k2,sK k6 1 1]) w4 fun y2 w5 =>
 ∃a3 k7 k8,y2=slice a3 k7 k8/\∃l2,KpL l2 w4 w5/\af k6 l2/\R (returned (slice a3 k7 k8)) w5)):Calls Zz 111 #[slice a n c,int u64 x] w R :=
 fz { loops:=[⟨1,[0,1],rg 5 10,[]⟩] } [av (.slice a n c),av (.int .u64 x)] Tryz.func111 h
theorem yU{a:Option Addr}{n c:Nat}{x:Int}
 (h :
 ag Zz 111 #[slice a n c,int u64 (aX BinOp.xor u64 (u64.wrap (u64.wrap x*(↑((2:Nat) ^ (1:Nat)):Int))) (u64.wrap (x.fdiv (↑((2:Nat) ^ (63:Nat)):Int))))] w fun e1 w1 =>
 ∃a1 k1 k2,e1=returned (slice a1 k1 k2)/\∃l1,KpL l1 w w1/\R (returned (slice a1 k1 k2)) w1):Calls Zz 112 #[slice a n c,iv x] w R :=
 fz { muts:=[111],wrap:=true } [av (.slice a n c),av (iv x)] Tryz.func112 h
theorem Cj{a:Option Addr}{n c:Nat}{s:ByteArray}
 (h :
 ag Zz 111 #[slice a n c,int u64 (u64.wrap (↑s.size:Int))] w fun e1 w1 =>
 ∃a1 k1 k2,e1=returned (slice a1 k1 k2)/\∃l1,KpL l1 w w1/\Ev Zz (Builtin.append_ #[33,9] 33 #[slice a1 k1 k2,string s]) w1 fun y1 w2 =>
 ∃a2 k3 k4,y1=slice a2 k3 k4/\∃l2,KpL l2 w1 w2/\R (returned (slice a2 k3 k4)) w2):Calls Zz 113 #[slice a n c,string s] w R :=
 fz { muts:=[111] } [av (.slice a n c),av (.string s)] Tryz.func113 h
theorem wS{a:Option Addr}{n c:Nat}{p:Option Addr}{q r:Nat}
 (h :
 ag Zz 111 #[slice a n c,int u64 (u64.wrap (↑q:Int))] w fun e1 w1 =>
 ∃a1 k1 k2,e1=returned (slice a1 k1 k2)/\∃l1,KpL l1 w w1/\∃(P1:LP)(P2:LM),P1 [slice a1 k1 k2,iv 0] w1/\∀a2 k3 k4 n1 w2,P1 [slice a2 k3 k4,iv n1] w2->(n1<(↑q:Int)->Ad p n1 q fun d1=>∃n2 n3 n4 s1,ao w2 (d1.add (n1.toNat*4)) [iv n2,iv n3,iv n4,string s1]/\∀k5,w2.heap.size<=k5->∀k6,w2.heap.size<=k6->∀w3,KpL [] w2 w3->Hb w3 k6 #[int u8 (u8.wrap n2)] 5/\Hb w3 k5 #[iv n2,iv n3,iv n4,string s1] 161->Ev Zz (Builtin.append_ #[33,33] 33 #[slice a2 k3 k4,sK k6 1 1]) w3 fun y1 w4 =>
 ∃a3 k7 k8,y1=slice a3 k7 k8/\∃l2,KpL l2 w3 w4/\(af k6 l2/\af k5 l2)/\(n2=3->Hb w4 k6 #[int u8 (u8.wrap n2)] 5/\Hb w4 k5 #[iv n2,iv n3,iv n4,string s1] 161->ag Zz 113 #[slice a3 k7 k8,string s1] w4 fun e2 w5 =>
 ∃a4 k9 k10,e2=returned (slice a4 k9 k10)/\∃l3,KpL l3 w4 w5/\(af k6 l3/\af k5 l3)/\ar i64 (n1+1)/\(Hb w5 k6 #[int u8 (u8.wrap n2)] 5/\Hb w5 k5 #[iv n2,iv n3,iv n4,string s1] 161->P1 [slice a4 k9 k10,iv (n1+1)] w5/\P2 [slice a4 k9 k10,iv (n1+1)] w5<P2 [slice a2 k3 k4,iv n1] w2))/\(¬n2=3->(n2=2->∀w6,KpL [] w4 w6->Hb w6 k6 #[int u8 (u8.wrap n2)] 5/\Hb w6 k5 #[iv n2,iv n3,iv n4,string s1] 161->ag Zz 112 #[slice a3 k7 k8,iv n3] w6 fun e3 w7 =>
 ∃a5 k11 k12,e3=returned (slice a5 k11 k12)/\∃l4,KpL l4 w6 w7/\(af k6 l4/\af k5 l4)/\(Hb w7 k6 #[int u8 (u8.wrap n2)] 5/\Hb w7 k5 #[iv n2,iv n3,iv n4,string s1] 161->(ao w7 (Addr.mk k5 (0+2) none) [iv n4]/\True)/\(Hb w7 k6 #[int u8 (u8.wrap n2)] 5/\Hb w7 k5 #[iv n2,iv n3,iv n4,string s1] 161->ag Zz 111 #[slice a5 k11 k12,int u64 (u64.wrap n4)] w7 fun e4 w8 =>
 ∃a6 k13 k14,e4=returned (slice a6 k13 k14)/\∃l5,KpL l5 w7 w8/\(af k6 l5/\af k5 l5)/\ar i64 (n1+1)/\(Hb w8 k6 #[int u8 (u8.wrap n2)] 5/\Hb w8 k5 #[iv n2,iv n3,iv n4,string s1] 161->P1 [slice a6 k13 k14,iv (n1+1)] w8/\P2 [slice a6 k13 k14,iv (n1+1)] w8<P2 [slice a2 k3 k4,iv n1] w2))))/\(¬n2=2->∀k15,w4.heap.size<=k15->∀w9,KpL [] w4 w9->Hb w9 k15 #[int u8 (u8.wrap n3)] 5/\Hb w9 k6 #[int u8 (u8.wrap n2)] 5/\Hb w9 k5 #[iv n2,iv n3,iv n4,string s1] 161->Ev Zz (Builtin.append_ #[33,33] 33 #[slice a3 k7 k8,sK k15 1 1]) w9 fun y2 w10 =>
 ∃a7 k16 k17,y2=slice a7 k16 k17/\∃l6,KpL l6 w9 w10/\(af k15 l6/\af k6 l6/\af k5 l6)/\ar i64 (n1+1)/\(Hb w10 k15 #[int u8 (u8.wrap n3)] 5/\Hb w10 k6 #[int u8 (u8.wrap n2)] 5/\Hb w10 k5 #[iv n2,iv n3,iv n4,string s1] 161->P1 [slice a7 k16 k17,iv (n1+1)] w10/\P2 [slice a7 k16 k17,iv (n1+1)] w10<P2 [slice a2 k3 k4,iv n1] w2))))/\(¬n1<(↑q:Int)->R (returned (slice a2 k3 k4)) w2)):Calls Zz 114 #[slice a n c,slice p q r] w R :=
 fz { loops:=[⟨3,[0,14],[6]++rg 15 34,[]⟩],muts:=[111,112,113],all:=true } [av (.slice a n c),av (.slice p q r)] Tryz.func114 h
end
end Go.Vc
namespace Go.Vc
open Go Go.Proofs
def A8{α:Type}(e:Ty α)(M:List Nat)(w:World)(a:Option Addr)(xs:List α)(en:Ending)(w':World):Prop :=
 ∃a' n' c',en=.returned (.slice a' n' c')/\aZ e M w a xs a' n' c' w'
def iM:Nat->Nat->List Int
 |0,_=>[]
 |f+1,n=>if n<128 then [(n:Int)] else ((n%128+128:Nat):Int)::iM f (n / 128)
def bf(n:Int):List Int:=iM 10 n.toNat
theorem Au(f:Nat):∀n,(iM f n).length<=f:=by
 induction f with
 |zero=>intro n;simp[iM]
 |succ f ih =>
  intro n
  unfold iM
  split
  ·simp
  ·simpa using ih _
theorem bh(n:Int):(bf n).length<=10:=Au 10 _
theorem B9:oe Zz 33 33 5 1 1:=bM (by kernel_rfl)
theorem Fl:oe Zz 33 9 5 1 1:=bM (by kernel_rfl)
theorem R.int{k:IntKind}{M:List Nat}{w:World}{x:Int}(h:ar k x):R (tI k) M w x [.int k x]:=⟨rfl,h⟩
theorem bW{M:List Nat}{w:World}{xs:List Int}{a:Option Addr}{n c:Nat}{x:Int}(hA:bI (tI .u8) M w xs a n c)(hx:ar .u64 x)(hl:n+10<=70368744177664):
 Calls Zz 111 #[.slice a n c,.int .u64 x] w (A8 (tI .u8) M w a (xs++bf x)):=by
 rw[aJ]at hx
 refine xH ⟨fun vs w'=>∃a' n' c' y f done,vs=[.slice a' n' c',.int .u64 y]/\aZ (tI .u8) M w a (xs++done) a' n' c' w'/\0<=y/\y.toNat<128 ^ (f+1)/\
  iM 10 x.toNat=done++iM (f+1) y.toNat/\done.length+f=9,fun vs _=>match vs with|[_,.int _ y]=>y.toNat|_=>0,?_,?_⟩
 ·exact⟨a,n,c,x,9,[],rfl,by simpa using aZ.refl hA,hx.1,by omega,by simp,rfl⟩
 rintro a1 k1 k2 y w1 ⟨_,_,_,_,f,done,hv,hC,hy0,hyf,he,hd⟩
 simp only[List.cons.injEq,Value.slice.injEq,Value.int.injEq,true_and,and_true]at hv
 obtain⟨⟨rfl,rfl,rfl⟩,rfl⟩:=hv
 have hlen:n+done.length=k1:=by have h1:=hC.acc.len;have h2:=hA.len;rw[h1,h2];simp
 constructor
 ·intro hge k3 hk3 w2 hw2 hblk
  have e1:aX .or .u8 (IntKind.u8.wrap y) 128=y%128+128:=by rw[jn,E1 (by omega) (by omega)];omega
  rw[e1]at hblk
  have hin:ar .u8 (y%128+128):=bC.2 (by omega)
  have hA2:=hC.acc.news (N:=[k3]) hw2 (by simpa using ⟨hk3,ab hblk⟩)
  refine aD B9 hA2 hblk (R.int hin) (by omega) fun a2 c2 w3 hC2=>⟨_,_,_,rfl,_,hC2.kp,hA2.out (by simp),?_,?_⟩
  ·have e2:y.fdiv ((2 ^ 7:Nat):Int)=y / 128:=eU
   have e3:(y / 128).toNat=y.toNat / 128:=by omega
   obtain⟨g,rfl⟩:∃g,f=g+1:=by
    cases f with
    |zero=>simp at hyf;omega
    |succ g=>exact⟨g,rfl⟩
   refine⟨a2,k1+1,c2,y / 128,g,done++[y%128+128],by rw[e2],by rw[<-List.append_assoc];exact hC.next hw2 hC2,by omega,?_,?_,by simp;omega⟩
   ·rw[e3,Nat.div_lt_iff_lt_mul (by omega)]
    rw[Nat.pow_succ 128 (g+1)]at hyf
    exact hyf
   ·rw[he,iM,if_neg (by omega),e3]
    have e4:((y.toNat%128+128:Nat):Int)=y%128+128:=by omega
    rw[e4];simp
  ·have e2:y.fdiv ((2 ^ 7:Nat):Int)=y / 128:=eU
   simp only[e2];omega
 ·intro hlt k3 hk3 w2 hw2 hblk
  have e1:IntKind.u8.wrap y=y:=aE (bC.2 (by omega))
  rw[e1]at hblk
  have hA2:=hC.acc.news (N:=[k3]) hw2 (by simpa using ⟨hk3,ab hblk⟩)
  refine aD B9 hA2 hblk (R.int (bC.2 (by omega))) (by omega) fun a2 c2 w3 hC2=>⟨_,_,_,rfl,_,hC2.kp,hA2.out (by simp),_,_,_,rfl,?_⟩
  have e5:xs++bf x=xs++done++[y]:=by
   rw[bf,he,iM,if_pos (by omega)]
   have:((y.toNat:Nat):Int)=y:=by omega
   rw[this];simp
  rw[e5]
  exact hC.next hw2 hC2
theorem ef{M:List Nat}{w:World}{xs:List Int}{a:Option Addr}{n c:Nat}{x:Int}(hA:bI (tI .u8) M w xs a n c)(hx:ar .i64 x)(hl:n+10<=70368744177664):
 Calls Zz 112 #[.slice a n c,iv x] w (A8 (tI .u8) M w a (xs++bf (dW x))):=by
 refine yU ?_
 rw[DT hx]
 refine⟨(bW hA (yQ hx) hl).mono ?_⟩
 rintro e w1 ⟨a',n',c',rfl,hC⟩
 exact⟨_,_,_,rfl,_,hC.kp,_,_,_,rfl,hC⟩
theorem iy(s:ByteArray):(cB s).length=s.size:=by unfold cB;rw[List.length_map,Array.length_toList];rfl
def dK(s:ByteArray):List Int:=bf s.size++cB s
theorem gM{M:List Nat}{w:World}{xs:List Int}{a:Option Addr}{n c:Nat}{s:ByteArray}(hA:bI (tI .u8) M w xs a n c)(hl:n+s.size+10<=70368744177664):
 Calls Zz 113 #[.slice a n c,.string s] w (A8 (tI .u8) M w a (xs++dK s)):=by
 refine Cj ?_
 have e:IntKind.u64.wrap (s.size:Int)=s.size:=aE (aJ.2 (by omega))
 rw[e]
 refine⟨(bW hA (aJ.2 (by omega)) (by omega)).mono ?_⟩
 rintro e w1 ⟨a',n',c',rfl,hC⟩
 have hn:n'=n+(bf s.size).length:=by rw[hC.acc.len,hA.len];simp
 have:=bh s.size
 refine⟨_,_,_,rfl,_,hC.kp,qC Fl hC.acc (by omega) fun a2 c2 w2 hC2=>⟨_,_,_,rfl,_,hC2.kp,_,_,_,rfl,?_⟩⟩
 rw[dK,<-List.append_assoc]
 exact hC.trans hC2
structure Vl where
 k:Int
 n:Int
 d:Int
 s:ByteArray
deriving DecidableEq
def Vl.ok(v:Vl):Prop:=ar .i64 v.k/\ar .i64 v.n/\ar .i64 v.d/\v.s.size<=az
def cv:Ty Vl:=nD 4 (fun v=>[iv v.k,iv v.n,iv v.d,.string v.s]) Vl.ok (fun _ _=>rfl) (by
 intro x v hv
 simp only[List.mem_cons,List.not_mem_nil,or_false]at hv
 rcases hv with rfl|rfl|rfl|rfl<;>rfl)
theorem R.val{M:List Nat}{w:World}{v:Vl}{cs:List Value}(h:R cv M w v cs):cs=[iv v.k,iv v.n,iv v.d,.string v.s]/\Vl.ok v:=h
def eZ(v:Vl):List Int:=v.k%256::(if v.k=3 then dK v.s else if v.k=2 then bf (dW v.n)++bf (IntKind.u64.wrap v.d) else [v.n%256])
def ee(l:List Vl):List Int:=bf l.length++l.flatMap eZ
theorem cV{α:Type}(f:α->List Int)(l:List α)(i:Nat)(hi:i<l.length):(l.take (i+1)).flatMap f=(l.take i).flatMap f++f l[i]:=by
 rw[<-List.take_append_getElem hi,List.flatMap_append]
 simp
theorem Bd{α:Type}(f:α->List Int)(l:List α)(i:Nat):((l.take i).flatMap f).length<=(l.flatMap f).length:=by
 conv=>rhs;rw[<-List.take_append_drop i l]
 rw[List.flatMap_append,List.length_append]
 omega
theorem xV{α:Type}(f:α->List Int)(l:List α)(i:Nat)(hi:i<l.length):((l.take i).flatMap f).length+(f l[i]).length<=(l.flatMap f).length:=by
 have:=Bd f l (i+1)
 rw[cV f l i hi,List.length_append]at this
 exact this
theorem jm{M:List Nat}{w:World}{xs:List Int}{a:Option Addr}{n c:Nat}{l:List Vl}{p:Option Addr}{q r:Nat}(hA:bI (tI .u8) M w xs a n c)
 (hR:R (au cv) (aj a) w l [.slice p q r])(hl:n+(ee l).length+40<=70368744177664):
 Calls Zz 114 #[.slice a n c,.slice p q r] w (A8 (tI .u8) M w a (xs++ee l)):=by
 obtain⟨rfl,hq1,hq2⟩:=hR.sl_len
 have hmx:az=140737488355328:=rfl
 refine wS ?_
 have e:IntKind.u64.wrap (l.length:Int)=l.length:=aE (aJ.2 (by omega))
 rw[e]
 have hlen0:=bh l.length
 have htot:(ee l).length=(bf l.length).length+(l.flatMap eZ).length:=by simp[ee]
 refine⟨(bW hA (aJ.2 (by omega)) (by omega)).mono ?_⟩
 rintro e w1 ⟨a',n',c',rfl,hC⟩
 refine⟨_,_,_,rfl,_,hC.kp,fun vs w'=>∃a' n' c' i,vs=[.slice a' n' c',iv i]/\aZ (tI .u8) M w a (xs++(bf l.length++(l.take i.toNat).flatMap eZ)) a' n' c' w'/\0<=i/\i<=l.length,
  fun vs _=>match vs with|[_,.int _ i]=>(l.length - i.toNat)|_=>0,?_,?_⟩
 ·exact⟨_,_,_,0,rfl,by simpa using hC,by omega,by omega⟩
 rintro a1 k1 k2 i w2 ⟨_,_,_,_,hv,hC2,hi0,hi1⟩
 simp only[List.cons.injEq,Value.slice.injEq,Value.int.injEq,true_and,and_true]at hv
 obtain⟨⟨rfl,rfl,rfl⟩,rfl⟩:=hv
 have hlen:k1=n+((bf l.length).length+((l.take i.toNat).flatMap eZ).length):=by rw[hC2.acc.len,hA.len];simp
 constructor
 ·intro hlt
  have hi:i.toNat<l.length:=by omega
  obtain⟨ad,cs,rfl,hv,hld,hb1,hb2⟩:=(hC2.data (N:=[]) (by simpa using hR)).sl_get hi
  obtain⟨rfl,hok⟩:=hv.val
  have hfl:=xV eZ l i.toNat hi
  have hft:=cV eZ l i.toNat hi
  generalize hvv:l[i.toNat]=v at *
  refine⟨ad,rfl,hi0,hlt,_,_,_,_,hld,?_⟩
  intro k5 hk5 k6 hk6 w3 hw3 hkn
  have e1:IntKind.u8.wrap v.k=v.k%256:=rfl
  rw[e1]at hkn
  have hsz:v.s.size<=az:=hok.2.2.2
  have hinc:ar .i64 (i+1):=ae.2 (by omega)
  have h4:(bf (dW v.n)).length<=10:=bh _
  have h5:(dK v.s).length=(bf v.s.size).length+v.s.size:=by unfold dK;rw[List.length_append,iy]
  have hn1:(i+1).toNat=i.toNat+1:=by omega
  have fin:∀{a':Option Addr} {n' c':Nat} {w':World},aZ (tI .u8) M w a (xs++(bf l.length++((l.take i.toNat).flatMap eZ++eZ v))) a' n' c' w'->
   (∃a'' n'' c'' j,[Value.slice a' n' c',Value.int .i64 (i+1)]=[.slice a'' n'' c'',iv j]/\aZ (tI .u8) M w a (xs++(bf l.length++(l.take j.toNat).flatMap eZ)) a'' n'' c'' w'/\0<=j/\j<=l.length)/\
   l.length - (i+1).toNat<l.length - i.toNat:=by
   intro a' n' c' w' h
   refine⟨⟨_,_,_,i+1,rfl,?_,by omega,by omega⟩,by omega⟩
   rw[hn1,hft];exact h
  have hA3:=hC2.acc.news (N:=[k6,k5]) hw3 (by simpa using ⟨⟨hk6,ab hkn.1⟩,hk5,ab hkn.2⟩)
  refine aD B9 hA3 hkn.1 (x:=v.k%256) (R.int (bC.2 (by omega))) (by omega) fun a3 c3 w4 hC3=>⟨_,_,_,rfl,_,hC3.kp,⟨hA3.out (by simp),hA3.out (by simp)⟩,?_,fun h3=>⟨?_,fun h2=>?_⟩⟩
  ·
   intro h3 hkn4
   have ev:eZ v=v.k%256::dK v.s:=by unfold eZ;rw[if_pos h3]
   rw[ev,List.length_cons]at hfl
   refine⟨(gM hC3.acc (by omega)).mono ?_⟩
   rintro e w5 ⟨a5,n5,c5,rfl,hC5⟩
   refine⟨_,_,_,rfl,_,hC5.kp,⟨hC3.acc.out (by simp),hC3.acc.out (by simp)⟩,hinc,fun _=>?_⟩
   apply fin
   rw[ev]
   have:=hC2.next hw3 (hC3.trans hC5)
   simpa using this
  ·
   intro h2 w6 hw6 hkn6
   have ev:eZ v=v.k%256::(bf (dW v.n)++bf (IntKind.u64.wrap v.d)):=by unfold eZ;rw[if_neg h3,if_pos h2]
   rw[ev,List.length_cons,List.length_append]at hfl
   have hC6:=hC3.kp0 hw6
   refine⟨(ef hC6.acc hok.2.1 (by omega)).mono ?_⟩
   rintro e w7 ⟨a7,n7,c7,rfl,hC7⟩
   refine⟨_,_,_,rfl,_,hC7.kp,⟨hC6.acc.out (by simp),hC6.acc.out (by simp)⟩,fun hkn7=>⟨⟨ak hkn7.2 2 _ (by simp),trivial⟩,fun _=>?_⟩⟩
   have h7:n7=k1+1+(bf (dW v.n)).length:=by rw[hC7.acc.len,List.length_append,<-hC6.acc.len]
   refine⟨(bW hC7.acc (gy _ _) (by omega)).mono ?_⟩
   rintro e w8 ⟨a8,n8,c8,rfl,hC8⟩
   refine⟨_,_,_,rfl,_,hC8.kp,⟨hC7.acc.out (by simp),hC7.acc.out (by simp)⟩,hinc,fun _=>?_⟩
   apply fin
   rw[ev]
   have:=hC2.next hw3 ((hC6.trans hC7).trans hC8)
   simpa using this
  ·intro k15 hk15 w9 hw9 hkn9
   have ev:eZ v=[v.k%256,v.n%256]:=by unfold eZ;rw[if_neg h3,if_neg h2]
   rw[ev]at hfl
   simp only[List.length_cons,List.length_nil]at hfl
   have e2:IntKind.u8.wrap v.n=v.n%256:=rfl
   rw[e2]at hkn9
   have hA9:=hC3.acc.news (N:=[k15]) hw9 (by simpa using ⟨hk15,ab hkn9.1⟩)
   refine aD B9 hA9 hkn9.1 (x:=v.n%256) (R.int (bC.2 (by omega))) (by omega) fun a10 c10 w10 hC10=>⟨_,_,_,rfl,_,hC10.kp,⟨hA9.out (by simp),hA9.out (by simp),hA9.out (by simp)⟩,hinc,fun _=>?_⟩
   apply fin
   rw[ev]
   have:=hC2.next hw3 (hC3.next hw9 hC10)
   simpa using this
 ·intro hge
  have:i=l.length:=by omega
  subst this
  refine⟨_,_,_,rfl,?_⟩
  simpa[ee]using hC2
end Go.Vc
namespace Go.Vc
open Go Go.Proofs
open Go.Value Go.Ending Go.IntKind
set_option maxRecDepth 100000
section
variable{w:World}{R:Ending->World->Prop}
theorem uH{a:Option Addr}{n c:Nat}
 (h :
 (a=none->R (returned (slice none 0 0)) w)/\(¬a=none->Ev Zz (Instr.buildSlice 78 0 #[]) w fun y1 w1 =>
 ∃a1 k1 k2,y1=slice a1 k1 k2/\∃l1,KpL l1 w w1/\Ev Zz (Builtin.append_ #[78,78] 78 #[slice a1 k1 k2,slice a n c]) w1 fun y2 w2 =>
 ∃a2 k3 k4,y2=slice a2 k3 k4/\∃l2,KpL l2 w1 w2/\R (returned (slice a2 k3 k4)) w2)):Calls Zz 68 #[slice a n c] w R :=
 fz {} [av (.slice a n c)] Tryz.func68 h
theorem vI{a:Option Addr}{n c:Nat}
 (h :
 (a=none->R (returned (slice none 0 0)) w)/\(¬a=none->Ev Zz (Instr.buildSlice 79 0 #[]) w fun y1 w1 =>
 ∃a1 k1 k2,y1=slice a1 k1 k2/\∃l1,KpL l1 w w1/\Ev Zz (Builtin.append_ #[79,79] 79 #[slice a1 k1 k2,slice a n c]) w1 fun y2 w2 =>
 ∃a2 k3 k4,y2=slice a2 k3 k4/\∃l2,KpL l2 w1 w2/\R (returned (slice a2 k3 k4)) w2)):Calls Zz 77 #[slice a n c] w R :=
 fz {} [av (.slice a n c)] Tryz.func77 h
theorem uT{a:Option Addr}{n c:Nat}
 (h :
 (a=none->R (returned (slice none 0 0)) w)/\(¬a=none->Ev Zz (Instr.buildSlice 33 0 #[]) w fun y1 w1 =>
 ∃a1 k1 k2,y1=slice a1 k1 k2/\∃l1,KpL l1 w w1/\Ev Zz (Builtin.append_ #[33,33] 33 #[slice a1 k1 k2,slice a n c]) w1 fun y2 w2 =>
 ∃a2 k3 k4,y2=slice a2 k3 k4/\∃l2,KpL l2 w1 w2/\R (returned (slice a2 k3 k4)) w2)):Calls Zz 95 #[slice a n c] w R :=
 fz {} [av (.slice a n c)] Tryz.func95 h
theorem tu{a:Option Addr}{n c:Nat}
 (h :
 (a=none->R (returned (slice none 0 0)) w)/\(¬a=none->Ev Zz (Instr.buildSlice 54 0 #[]) w fun y1 w1 =>
 ∃a1 k1 k2,y1=slice a1 k1 k2/\∃l1,KpL l1 w w1/\Ev Zz (Builtin.append_ #[54,54] 54 #[slice a1 k1 k2,slice a n c]) w1 fun y2 w2 =>
 ∃a2 k3 k4,y2=slice a2 k3 k4/\∃l2,KpL l2 w1 w2/\R (returned (slice a2 k3 k4)) w2)):Calls Zz 164 #[slice a n c] w R :=
 fz {} [av (.slice a n c)] Tryz.func164 h
theorem rW{a:Option Addr}{n c:Nat}
 (h :
 (a=none->R (returned (slice none 0 0)) w)/\(¬a=none->Ev Zz (Instr.buildSlice 55 0 #[]) w fun y1 w1 =>
 ∃a1 k1 k2,y1=slice a1 k1 k2/\∃l1,KpL l1 w w1/\Ev Zz (Builtin.append_ #[55,55] 55 #[slice a1 k1 k2,slice a n c]) w1 fun y2 w2 =>
 ∃a2 k3 k4,y2=slice a2 k3 k4/\∃l2,KpL l2 w1 w2/\R (returned (slice a2 k3 k4)) w2)):Calls Zz 165 #[slice a n c] w R :=
 fz {} [av (.slice a n c)] Tryz.func165 h
theorem vK{a:Option Addr}{n c:Nat}{b:Option Addr}{m q:Nat}
 (h :
 ((↑n:Int)≠(↑m:Int)->R (returned (bv false)) w)/\(¬(↑n:Int)≠(↑m:Int)->∃(P1:LP)(P2:LM),P1 [iv 0] w/\∀n1 w1,P1 [iv n1] w1->(n1<(↑n:Int)->Ad a n1 n fun d1=>∃s1 n2 n3,ao w1 (d1.add (n1.toNat*3)) [string s1,iv n2,iv n3]/\Ad b n1 m fun d2=>∃s2 n4 n5,ao w1 (d2.add (n1.toNat*3)) [string s2,iv n4,iv n5]/\∃b1,Pv Zz
 (do
 eqGuard BinOp.neq 153 (Operand.tmp 19) (Operand.tmp 23) (agg #[string s1,iv n2,iv n3]) (agg #[string s2,iv n4,iv n5])
 binOp BinOp.neq 153 (agg #[string s1,iv n2,iv n3]) (agg #[string s2,iv n4,iv n5]))
 (bv b1)/\(b1=true->∀w2,KpL [] w1 w2->R (returned (bv false)) w2)/\(b1=false->ar i64 (n1+1)/\∀w3,KpL [] w1 w3->P1 [iv (n1+1)] w3/\P2 [iv (n1+1)] w3<P2 [iv n1] w1))/\(¬n1<(↑n:Int)->R (returned (bv true)) w1))):Calls Zz 71 #[slice a n c,slice b m q] w R :=
 fz { loops:=[⟨4,[13],[4,5]++rg 14 12,[]⟩] } [av (.slice a n c),av (.slice b m q)] Tryz.func71 h
theorem uK{a:Option Addr}{n c:Nat}{b:Option Addr}{m q:Nat}
 (h :
 ((↑n:Int)≠(↑m:Int)->R (returned (bv false)) w)/\(¬(↑n:Int)≠(↑m:Int)->∃(P1:LP)(P2:LM),P1 [iv 0] w/\∀n1 w1,P1 [iv n1] w1->(n1<(↑n:Int)->Ad a n1 n fun d1=>∃n2,ao w1 (d1.add (n1.toNat*1)) [iv n2]/\Ad b n1 m fun d2=>∃n3,ao w1 (d2.add (n1.toNat*1)) [iv n3]/\(n2≠n3->∀w2,KpL [] w1 w2->R (returned (bv false)) w2)/\(¬n2≠n3->ar i64 (n1+1)/\∀w3,KpL [] w1 w3->P1 [iv (n1+1)] w3/\P2 [iv (n1+1)] w3<P2 [iv n1] w1))/\(¬n1<(↑n:Int)->R (returned (bv true)) w1))):Calls Zz 75 #[slice a n c,slice b m q] w R :=
 fz { loops:=[⟨4,[13],[4,5]++rg 14 12,[]⟩] } [av (.slice a n c),av (.slice b m q)] Tryz.func75 h
theorem tf{a:Option Addr}{n c:Nat}{b:Option Addr}{m q:Nat}
 (h :
 ((↑n:Int)≠(↑m:Int)->R (returned (bv false)) w)/\(¬(↑n:Int)≠(↑m:Int)->∃(P1:LP)(P2:LM),P1 [iv 0] w/\∀n1 w1,P1 [iv n1] w1->(n1<(↑n:Int)->Ad a n1 n fun d1=>∃n2,ao w1 (d1.add (n1.toNat*1)) [int u8 n2]/\Ad b n1 m fun d2=>∃n3,ao w1 (d2.add (n1.toNat*1)) [int u8 n3]/\(n2≠n3->∀w2,KpL [] w1 w2->R (returned (bv false)) w2)/\(¬n2≠n3->ar i64 (n1+1)/\∀w3,KpL [] w1 w3->P1 [iv (n1+1)] w3/\P2 [iv (n1+1)] w3<P2 [iv n1] w1))/\(¬n1<(↑n:Int)->R (returned (bv true)) w1))):Calls Zz 124 #[slice a n c,slice b m q] w R :=
 fz { loops:=[⟨4,[13],[4,5]++rg 14 12,[]⟩] } [av (.slice a n c),av (.slice b m q)] Tryz.func124 h
theorem oX{a:Option Addr}{n c:Nat}{b:Option Addr}{m q:Nat}
 (h :
 ∃(P1:LP)(P2:LM),P1 [iv 0] w/\∀n1 w1,P1 [iv n1] w1->(n1<(↑n:Int)->Ad a n1 n fun d1=>∃n2,ao w1 (d1.add (n1.toNat*1)) [iv n2]/\((↑m:Int)<=n1->R (returned (iv 1)) w1)/\(¬(↑m:Int)<=n1->Ad b n1 m fun d2=>∃n3,ao w1 (d2.add (n1.toNat*1)) [iv n3]/\ag Zz 121 #[iv n2,iv n3] w1 fun e1 w2 =>
 ∃n4,e1=returned (iv n4)/\KpL [] w1 w2/\(n4≠0->R (returned (iv n4)) w2)/\(¬n4≠0->ar i64 (n1+1)/\P1 [iv (n1+1)] w2/\P2 [iv (n1+1)] w2<P2 [iv n1] w1)))/\(¬n1<(↑n:Int)->((↑n:Int)<(↑m:Int)->R (returned (iv (-1))) w1)/\(¬(↑n:Int)<(↑m:Int)->R (returned (iv 0)) w1))):Calls Zz 122 #[slice a n c,slice b m q] w R :=
 fz { loops:=[⟨2,[11],rg 4 5++rg 12 19,[]⟩] } [av (.slice a n c),av (.slice b m q)] Tryz.func122 h
theorem oE{a:Option Addr}{n c:Nat}{b:Option Addr}{m q:Nat}
 (h :
 ((↑n:Int)≠(↑m:Int)->R (returned (bv false)) w)/\(¬(↑n:Int)≠(↑m:Int)->∃(P1:LP)(P2:LM),P1 [iv 0] w/\∀n1 w1,P1 [iv n1] w1->(n1<(↑n:Int)->Ad a n1 n fun d1=>∃s1,ao w1 (d1.add (n1.toNat*1)) [string s1]/\Ad b n1 m fun d2=>∃s2,ao w1 (d2.add (n1.toNat*1)) [string s2]/\(s1≠s2->∀w2,KpL [] w1 w2->R (returned (bv false)) w2)/\(¬s1≠s2->ar i64 (n1+1)/\∀w3,KpL [] w1 w3->P1 [iv (n1+1)] w3/\P2 [iv (n1+1)] w3<P2 [iv n1] w1))/\(¬n1<(↑n:Int)->R (returned (bv true)) w1))):Calls Zz 31 #[slice a n c,slice b m q] w R :=
 fz { loops:=[⟨4,[5],[4]++rg 11 15,[]⟩] } [av (.slice a n c),av (.slice b m q)] Tryz.func31 h
end
end Go.Vc
namespace Go.Vc
open Go Go.Proofs
variable {α:Type}
theorem Dp(a b:ByteArray):(a == b)=true↔a=b:=by
 obtain⟨a⟩:=a
 obtain⟨b⟩:=b
 show(a == b)=true↔_
 rw[beq_iff_eq,ByteArray.mk.injEq]
theorem FA:Tryz.prog.underlying 153=some (.struct #[⟨"Name",9,0,false, "", "",0⟩,⟨"Lo",3,1,false, "", "",16⟩,⟨"Hi",3,2,false, "", "",24⟩]):=by kernel_rfl
theorem Fs:Tryz.prog.underlying 156=some (.struct #[⟨"Name",9,0,false, "", "",0⟩,⟨"Type",3,1,false, "", "",16⟩]):=by kernel_rfl
theorem Ft:Tryz.prog.underlying 161=some (.struct #[⟨"Kind",3,0,false, "", "",0⟩,⟨"N",2,1,false, "", "",8⟩,⟨"D",2,2,false, "", "",16⟩,⟨"S",9,3,false, "", "",24⟩]):=by kernel_rfl
theorem DJ:Tryz.prog.underlying 143=some (.struct #[⟨"array",3,0,false, "", "tesseract/ingest",0⟩,⟨"at",141,1,false, "", "tesseract/ingest",8⟩]):=by kernel_rfl
theorem u9:Tryz.prog.underlying 9=some .string:=by kernel_rfl
theorem u3:Tryz.prog.underlying 3=some (.int .i64):=by kernel_rfl
theorem u2:Tryz.prog.underlying 2=some (.int .i64):=by kernel_rfl
theorem nH{P:Program}{t:TypeId}{d:TypeDesc}(hu:P.underlying t=some d)(hd:(match d with|.struct _|.array _ _=>true|_=>false)=false)(cs:Array Value)(o:Nat)(w:World):
 (part t cs o).run P w=match cs[o]? with|some v=>.ok v w|none=>.halt (.stuck "part: no such cell") w:=by
 have h1:(isAgg t).run P w=.ok false w:=by
  simp only[isAgg,Sem.run_bind,ai hu,Result.andThen_ok]
  split at hd<;>simp_all
 simp only[part,Sem.run_bind,h1,Result.andThen_ok,Bool.false_eq_true,if_false]
 split<;>simp_all
theorem mi{P:Program}{t:TypeId}(hu:P.underlying t=some .string)(d:Nat)(a b:ByteArray)(w:World):(Op.equalIn (d+1) t (.string a) (.string b)).run P w=.ok (a == b) w:=by
 simp only[Op.equalIn,Sem.run_bind,ai hu,Result.andThen_ok]
 rfl
theorem fr{P:Program}{t:TypeId}{k:IntKind}(hu:P.underlying t=some (.int k))(d:Nat)(a b:Int)(w:World):(Op.equalIn (d+1) t (.int k a) (.int k b)).run P w=.ok (a == b) w:=by
 simp only[Op.equalIn,Sem.run_bind,ai hu,Result.andThen_ok,if_true]
 rfl
theorem p9(cs:Array Value)(o:Nat)(w:World):(part 9 cs o).run Zz w=match cs[o]? with|some v=>.ok v w|none=>.halt (.stuck "part: no such cell") w:=nH u9 rfl cs o w
theorem p3(cs:Array Value)(o:Nat)(w:World):(part 3 cs o).run Zz w=match cs[o]? with|some v=>.ok v w|none=>.halt (.stuck "part: no such cell") w:=nH u3 rfl cs o w
theorem p2(cs:Array Value)(o:Nat)(w:World):(part 2 cs o).run Zz w=match cs[o]? with|some v=>.ok v w|none=>.halt (.stuck "part: no such cell") w:=nH u2 rfl cs o w
theorem Dw(w:World)(s1 s2:ByteArray)(a b c d:Int):(Op.equal 153 (.agg #[.string s1,iv a,iv b]) (.agg #[.string s2,iv c,iv d])).run Zz w=.ok (s1 == s2&&(a == c&&b == d)) w:=by
 have hs:Tryz.prog.stoodInHeld 153=false:=by kernel_rfl
 unfold Op.equal Op.maxDepth
 rw[Op.equalIn]
 simp only[Sem.run_bind,ai FA,Result.andThen_ok,run_program,hs,Bool.false_eq_true,if_false]
 simp[p9,p3,mi u9,fr u3]
 cases s1 == s2<;>by_cases h1:a=c<;>by_cases h2:b=d<;>simp[h1,h2]
theorem EH(w:World)(s1 s2:ByteArray)(a c:Int):(Op.equal 156 (.agg #[.string s1,iv a]) (.agg #[.string s2,iv c])).run Zz w=.ok (s1 == s2&&a == c) w:=by
 have hs:Tryz.prog.stoodInHeld 156=false:=by kernel_rfl
 unfold Op.equal Op.maxDepth
 rw[Op.equalIn]
 simp only[Sem.run_bind,ai Fs,Result.andThen_ok,run_program,hs,Bool.false_eq_true,if_false]
 simp[p9,p3,mi u9,fr u3]
 cases s1 == s2<;>by_cases h1:a=c<;>simp[h1]
theorem Dv(w:World)(k n d k' n' d':Int)(s s':ByteArray):
 (Op.equal 161 (.agg #[iv k,iv n,iv d,.string s]) (.agg #[iv k',iv n',iv d',.string s'])).run Zz w=.ok (k == k'&&(n == n'&&(d == d'&&s == s'))) w:=by
 have hs:Tryz.prog.stoodInHeld 161=false:=by kernel_rfl
 unfold Op.equal Op.maxDepth
 rw[Op.equalIn]
 simp only[Sem.run_bind,ai Ft,Result.andThen_ok,run_program,hs,Bool.false_eq_true,if_false]
 simp[p9,p3,p2,mi u9,fr u3,fr u2]
 by_cases h1:k=k'<;>by_cases h2:n=n'<;>by_cases h3:d=d'<;>cases s == s'<;>simp[h1,h2,h3]
theorem nZ{t:TypeId}{xo yo:Operand}{x y:Array Value}{b:Bool}(hg:Tryz.prog.eqGuardType Tryz.prog.depth t=false)(h:∀w,(Op.equal t (.agg x) (.agg y)).run Zz w=.ok b w):
 Pv Zz (do eqGuard .neq t xo yo (.agg x) (.agg y);binOp .neq t (.agg x) (.agg y)) (.bool (!b)):=by
 refine⟨fun w=>?_⟩
 simp[eqGuard,binOp,hg,h]
theorem eQ{P:Program}{e:Ty α}{st te sz by_:Nat}(hT:Dj P st te sz by_){M:List Nat}{w:World}(hM:∀b∈M,b<w.heap.size){Q:Value->World->Prop}
 (h:∀w',aZ e M w none [] (some ⟨w.heap.size,0,none⟩) 0 0 w'->Q (.slice (some ⟨w.heap.size,0,none⟩) 0 0) w'):Ev P (Instr.buildSlice st 0 #[]) w Q:=by
 refine⟨_,w.alloc (.cells #[] te (0,0)),?_,h _ ⟨⟨rfl,Nat.le_refl _,fun b hb=>Nat.lt_of_lt_of_le (hM b hb) ((KpL.refl [] w).alloc _).size,fun hc=>(by cases hc),fun ad had=>?_⟩,(KpL.refl _ _).alloc _,fun b hb=>?_⟩⟩
 ·simp[Instr.buildSlice,ai hT.und,hT.size,newRow,Instr.fill]
  have e0:Array.map (fun x=>(default:Value)) (Array.range 0)=#[]:=by simp
  rw[e0]
 ·simp only[Option.some.injEq]at had
  subst had
  refine⟨w.heap.size,#[],te,rfl,fun hm=>by have:=hM _ hm;omega,?_,by simp,fun i x hx=>by simp at hx⟩
  show(w.heap.push _)[w.heap.size]?=_
  simp
 ·simp[aj]at hb
  subst hb
  exact .inr (Nat.le_refl _)
def wo(e:Ty α):Prop:=∀A A' w w' x cs,e.rel A w x cs->e.rel A' w' x cs
theorem eq{sz:Nat}{enc:α->List Value}{ok:α->Prop}{hl:∀x,ok x->(enc x).length=sz}{h1:∀x,∀v∈enc x,jA v=true}:wo (nD sz enc ok hl h1):=fun _ _ _ _ _ _ h=>h
theorem jh{k:IntKind}:wo (tI k):=fun _ _ _ _ _ _ h=>h
theorem R.srcsP{P:Program}{e:Ty α}(hp:wo e){M M':List Nat}{w w1:World}{ys:List α}{a2:Option Addr}{m c2:Nat}(hy:R (au e) M w ys [.slice a2 m c2])(k:KpL [] w w1):∃ly,sU P e M' w1 ys (.slice a2 m c2) m ly:=by
 obtain⟨ly,h⟩:=(hy.kp0 k).srcs (P:=P)
 exact⟨ly,h.len,h.num,⟨h.flat.1,h.flat.2.1,fun i x hx=>by
  obtain⟨cs,h1,h2⟩:=h.flat.2.2 i x hx
  exact⟨cs,hp _ _ _ _ _ _ h1,h2⟩⟩,h.first⟩
theorem zh{P:Program}{e:Ty α}{st te by_:Nat}(hT:oe P st st te e.sz by_){M:List Nat}{w:World}{xs:List α}{a:Option Addr}{n c:Nat}(hM:∀b∈M,b<w.heap.size)
 (hnil:a=none->xs=[])(hR:∀w1 b,KpL [] w w1->w.heap.size<=b->∃ly,sU P e (b::M) w1 xs (.slice a n c) n ly)(hn:(2*n+768)*by_<=281474976710656){R':Ending->World->Prop}(hR':∀a' n' c' w',aZ e M w none xs a' n' c' w'->R' (.returned (.slice a' n' c')) w'):
 (((a=none)->R' (.returned (.slice none 0 0)) w)/\((¬a=none)->
   Ev P (Instr.buildSlice st 0 #[]) w fun y1 w1=>∃a1 k1 k2,y1=.slice a1 k1 k2/\∃l1,KpL l1 w w1/\Ev P (Builtin.append_ #[st,st] st #[.slice a1 k1 k2,.slice a n c]) w1 fun y2 w2 =>
    ∃a2 k3 k4,y2=.slice a2 k3 k4/\∃l2,KpL l2 w1 w2/\R' (.returned (.slice a2 k3 k4)) w2)):=by
 constructor
 ·intro ha
  have:=hnil ha
  subst this
  exact hR' none 0 0 w ⟨bI.nil' e hM,KpL.refl _ _,by simp[aj]⟩
 ·intro _
  refine eQ (e:=e) hT.el hM fun w1 hC=>⟨_,_,_,rfl,_,hC.kp,?_⟩
  obtain⟨ly,hS⟩:=hR w1 w.heap.size hC.kpn (Nat.le_refl _)
  refine cN (ys:=xs) (ly:=ly) hT hC.acc hS (by rw[Nat.zero_add];exact hn) fun a' c' w' hC2=>⟨_,_,_,rfl,_,hC2.kp,?_⟩
  have:=hC.trans hC2
  rw[List.nil_append]at this
  exact hR' _ _ _ _ this
theorem R.nil_of{e:Ty α}{M:List Nat}{w:World}{xs:List α}{n c:Nat}(h:R (au e) M w xs [.slice none n c]):xs=[]:=by
 obtain⟨a',c',h1,_,_,h4⟩:=h
 simp only[List.cons.injEq,Value.slice.injEq,and_true]at h1
 by_cases hx:xs=[]
 ·exact hx
 ·obtain⟨b,off,_,_,_,h5,_⟩:=h4 hx
  rw[<-h1.1]at h5
  cases h5
theorem eS{P:Program}{e:Ty α}(hp:wo e){st te by_:Nat}(hT:oe P st st te e.sz by_){M M0:List Nat}{w:World}{xs:List α}{a:Option Addr}{n c:Nat}(hM:∀b∈M,b<w.heap.size)
 (hR:R (au e) M0 w xs [.slice a n c])(hn:(2*n+768)*by_<=281474976710656){R':Ending->World->Prop}(hR':∀a' n' c' w',aZ e M w none xs a' n' c' w'->R' (.returned (.slice a' n' c')) w'):
 (((a=none)->R' (.returned (.slice none 0 0)) w)/\((¬a=none)->
   Ev P (Instr.buildSlice st 0 #[]) w fun y1 w1=>∃a1 k1 k2,y1=.slice a1 k1 k2/\∃l1,KpL l1 w w1/\Ev P (Builtin.append_ #[st,st] st #[.slice a1 k1 k2,.slice a n c]) w1 fun y2 w2 =>
    ∃a2 k3 k4,y2=.slice a2 k3 k4/\∃l2,KpL l2 w1 w2/\R' (.returned (.slice a2 k3 k4)) w2)) :=
 zh hT hM (fun ha=>by subst ha;exact hR.nil_of) (fun _ _ k _=>hR.srcsP hp k) hn hR'
abbrev tZ{α:Type}(e:Ty α)(M:List Nat)(w:World)(xs:List α):Ending->World->Prop:=A8 e M w none xs
structure dI where
 name:ByteArray
 lo:Int
 hi:Int
deriving DecidableEq
structure cI where
 name:ByteArray
 type:Int
deriving DecidableEq
def dI.ok(d:dI):Prop:=d.name.size<=az/\ar .i64 d.lo/\ar .i64 d.hi
def cI.ok(d:cI):Prop:=d.name.size<=az/\ar .i64 d.type
def bY:Ty dI:=nD 3 (fun v=>[.string v.name,iv v.lo,iv v.hi]) dI.ok (fun _ _=>rfl) (by
 intro x v hv
 simp only[List.mem_cons,List.not_mem_nil,or_false]at hv
 rcases hv with rfl|rfl|rfl<;>rfl)
def bw:Ty cI:=nD 2 (fun v=>[.string v.name,iv v.type]) cI.ok (fun _ _=>rfl) (by
 intro x v hv
 simp only[List.mem_cons,List.not_mem_nil,or_false]at hv
 rcases hv with rfl|rfl<;>rfl)
theorem R.dim{M:List Nat}{w:World}{v:dI}{cs:List Value}(h:R bY M w v cs):cs=[.string v.name,iv v.lo,iv v.hi]/\v.ok:=h
theorem R.attr{M:List Nat}{w:World}{v:cI}{cs:List Value}(h:R bw M w v cs):cs=[.string v.name,iv v.type]/\v.ok:=h
theorem R.intD{k:IntKind}{M:List Nat}{w:World}{v:Int}{cs:List Value}(h:R (tI k) M w v cs):cs=[.int k v]/\ar k v:=h
theorem zm:oe Zz 78 78 3 1 8:=bM (by kernel_rfl)
theorem El:oe Zz 79 79 161 4 40:=bM (by kernel_rfl)
theorem Fi:oe Zz 54 54 153 3 32:=bM (by kernel_rfl)
theorem Fg:oe Zz 55 55 156 2 24:=bM (by kernel_rfl)
section
variable {M M0:List Nat} {w:World} {a:Option Addr} {n c:Nat} (hM:∀b∈M,b<w.heap.size) (hn:n<=1099511627776)
include hM hn
theorem nr{xs:List Int}(hR:R (au (tI .i64)) M0 w xs [.slice a n c]):Calls Zz 68 #[.slice a n c] w (tZ (tI .i64) M w xs) :=
 uH (eS jh zm hM hR (by omega) fun _ _ _ _ h=>⟨_,_,_,rfl,h⟩)
theorem ie{xs:List Vl}(hR:R (au cv) M0 w xs [.slice a n c]):Calls Zz 77 #[.slice a n c] w (tZ cv M w xs) :=
 vI (eS eq El hM hR (by omega) fun _ _ _ _ h=>⟨_,_,_,rfl,h⟩)
theorem nA{xs:List Int}(hR:R (au (tI .u8)) M0 w xs [.slice a n c]):Calls Zz 95 #[.slice a n c] w (tZ (tI .u8) M w xs) :=
 uT (eS jh B9 hM hR (by omega) fun _ _ _ _ h=>⟨_,_,_,rfl,h⟩)
theorem tz{xs:List dI}(hR:R (au bY) M0 w xs [.slice a n c]):Calls Zz 164 #[.slice a n c] w (tZ bY M w xs) :=
 tu (eS eq Fi hM hR (by omega) fun _ _ _ _ h=>⟨_,_,_,rfl,h⟩)
theorem rS{xs:List cI}(hR:R (au bw) M0 w xs [.slice a n c]):Calls Zz 165 #[.slice a n c] w (tZ bw M w xs) :=
 rW (eS eq Fg hM hR (by omega) fun _ _ _ _ h=>⟨_,_,_,rfl,h⟩)
end
def aA(v:Value)(w:World)(e:Ending)(w':World):Prop:=e=.returned v/\KpL [] w w'
theorem eJ{xs ys:List α}{i:Nat}(h1:i<xs.length)(h2:i<ys.length)(h:xs.take i=ys.take i)(he:xs[i]=ys[i]):xs.take (i+1)=ys.take (i+1):=by
 rw[<-List.take_append_getElem h1,<-List.take_append_getElem h2,h,he]
theorem dU{xs ys:List α}{i:Nat}(h1:i<xs.length)(h2:i<ys.length)(he:xs[i]≠ys[i]):xs≠ys:=by
 rintro rfl
 exact he rfl
theorem D7{M:List Nat}{w:World}{xs ys:List (dI)}{a b:Option Addr}{n c m q:Nat}(hx:R (au bY) M w xs [.slice a n c])(hy:R (au bY) M w ys [.slice b m q]):
 Calls Zz 71 #[.slice a n c,.slice b m q] w (aA (.bool (decide (xs=ys))) w):=by
 obtain⟨rfl,hn1,hn2⟩:=hx.sl_len
 obtain⟨rfl,hm1,hm2⟩:=hy.sl_len
 have hmx:az=140737488355328:=rfl
 refine vK ⟨fun hne=>?_,fun he=>⟨fun vs w'=>∃i,vs=[iv i]/\KpL [] w w'/\0<=i/\i<=xs.length/\xs.take i.toNat=ys.take i.toNat,fun vs _=>match vs with|[.int _ i]=>xs.length - i.toNat|_=>0,⟨0,rfl,KpL.refl _ _,by omega,by omega,rfl⟩,?_⟩⟩
 ·refine⟨?_,KpL.refl _ _⟩
  have:xs≠ys:=by rintro rfl;exact hne rfl
  rw[decide_eq_false this]
 have hl:xs.length=ys.length:=by
  have:=Classical.not_not.1 he
  omega
 rintro n1 w1 ⟨i,hv,hk,hi0,hi1,ht⟩
 obtain rfl:=v1 hv
 constructor
 ·intro hlt
  have h1:n1.toNat<xs.length:=by omega
  have h2:n1.toNat<ys.length:=by omega
  obtain⟨ad,cs,rfl,hv1,hld1,_,_⟩:=(hx.kp0 hk).sl_get h1
  obtain⟨ad2,cs2,rfl,hv2,hld2,_,_⟩:=(hy.kp0 hk).sl_get h2
  obtain⟨rfl,hok1⟩:=hv1.dim
  obtain⟨rfl,hok2⟩:=hv2.dim
  refine⟨ad,rfl,hi0,hlt,_,_,_,hld1,ad2,rfl,hi0,by omega,_,_,_,hld2,?_⟩
  have hkey:(xs[n1.toNat].name == ys[n1.toNat].name&&(xs[n1.toNat].lo == ys[n1.toNat].lo&&xs[n1.toNat].hi == ys[n1.toNat].hi))=decide (xs[n1.toNat]=ys[n1.toNat]):=by
   generalize xs[n1.toNat]=x;generalize ys[n1.toNat]=y
   cases x;cases y;rw[Bool.eq_iff_iff];simp only[Bool.and_eq_true,Dp,beq_iff_eq,decide_eq_true_eq,dI.mk.injEq]
  refine⟨_,nZ (by kernel_rfl) (fun w=>Dw w _ _ _ _ _ _),?_,?_⟩
  ·intro hb w2 hw2
   refine⟨?_,hk.trans hw2⟩
   have hne:xs[n1.toNat]≠ys[n1.toNat]:=by
    intro hc
    first
     |exact hb hc
     |(rw[decide_eq_true hc]at hkey;simp[hkey]at hb)
   rw[decide_eq_false (dU h1 h2 hne)]
  ·intro hb
   have heq:xs[n1.toNat]=ys[n1.toNat]:=by
    have:decide (xs[n1.toNat]=ys[n1.toNat])=true:=by rw[<-hkey];simpa using hb
    exact of_decide_eq_true this
   have e1:(n1+1).toNat=n1.toNat+1:=by omega
   refine⟨ae.2 (by omega),fun w3 hw3=>⟨⟨n1+1,rfl,hk.trans hw3,by omega,by omega,by rw[e1];exact eJ h1 h2 ht heq⟩,?_⟩⟩
   show xs.length - (n1+1).toNat<xs.length - n1.toNat
   omega
 ·intro hge
  refine⟨?_,hk⟩
  have e1:n1.toNat=xs.length:=by omega
  rw[e1,List.take_length,hl,List.take_length]at ht
  rw[decide_eq_true ht]
theorem Ef{M:List Nat}{w:World}{xs ys:List (Int)}{a b:Option Addr}{n c m q:Nat}(hx:R (au (tI .i64)) M w xs [.slice a n c])(hy:R (au (tI .i64)) M w ys [.slice b m q]):
 Calls Zz 75 #[.slice a n c,.slice b m q] w (aA (.bool (decide (xs=ys))) w):=by
 obtain⟨rfl,hn1,hn2⟩:=hx.sl_len
 obtain⟨rfl,hm1,hm2⟩:=hy.sl_len
 have hmx:az=140737488355328:=rfl
 refine uK ⟨fun hne=>?_,fun he=>⟨fun vs w'=>∃i,vs=[iv i]/\KpL [] w w'/\0<=i/\i<=xs.length/\xs.take i.toNat=ys.take i.toNat,fun vs _=>match vs with|[.int _ i]=>xs.length - i.toNat|_=>0,⟨0,rfl,KpL.refl _ _,by omega,by omega,rfl⟩,?_⟩⟩
 ·refine⟨?_,KpL.refl _ _⟩
  have:xs≠ys:=by rintro rfl;exact hne rfl
  rw[decide_eq_false this]
 have hl:xs.length=ys.length:=by
  have:=Classical.not_not.1 he
  omega
 rintro n1 w1 ⟨i,hv,hk,hi0,hi1,ht⟩
 obtain rfl:=v1 hv
 constructor
 ·intro hlt
  have h1:n1.toNat<xs.length:=by omega
  have h2:n1.toNat<ys.length:=by omega
  obtain⟨ad,cs,rfl,hv1,hld1,_,_⟩:=(hx.kp0 hk).sl_get h1
  obtain⟨ad2,cs2,rfl,hv2,hld2,_,_⟩:=(hy.kp0 hk).sl_get h2
  obtain⟨rfl,hok1⟩:=hv1.intD
  obtain⟨rfl,hok2⟩:=hv2.intD
  refine⟨ad,rfl,hi0,hlt,_,hld1,ad2,rfl,hi0,by omega,_,hld2,?_⟩
  have hkey:(decide (xs[n1.toNat]=ys[n1.toNat]))=decide (xs[n1.toNat]=ys[n1.toNat]):=by
   rfl
  refine⟨?_,?_⟩
  ·intro hb w2 hw2
   refine⟨?_,hk.trans hw2⟩
   have hne:xs[n1.toNat]≠ys[n1.toNat]:=by
    intro hc
    first
     |exact hb hc
     |(rw[decide_eq_true hc]at hkey;simp[hkey]at hb)
   rw[decide_eq_false (dU h1 h2 hne)]
  ·intro hb
   have heq:xs[n1.toNat]=ys[n1.toNat]:=by
    have:decide (xs[n1.toNat]=ys[n1.toNat])=true:=by rw[<-hkey];simpa using hb
    exact of_decide_eq_true this
   have e1:(n1+1).toNat=n1.toNat+1:=by omega
   refine⟨ae.2 (by omega),fun w3 hw3=>⟨⟨n1+1,rfl,hk.trans hw3,by omega,by omega,by rw[e1];exact eJ h1 h2 ht heq⟩,?_⟩⟩
   show xs.length - (n1+1).toNat<xs.length - n1.toNat
   omega
 ·intro hge
  refine⟨?_,hk⟩
  have e1:n1.toNat=xs.length:=by omega
  rw[e1,List.take_length,hl,List.take_length]at ht
  rw[decide_eq_true ht]
end Go.Vc
