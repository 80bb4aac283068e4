/-
  Parts of a symbolic engine over the program's code: how operations, regions, loops and calls are shown to keep contracts. No conditions.
-/
import Derived.WalkKit
set_option linter.unusedSimpArgs false
set_option linter.unusedVariables false
set_option linter.unusedSectionVars false

namespace Go.SE
structure GFact where
 eq:Bool
 a:Int
 b:Int
 deriving DecidableEq,Inhabited
structure GAtom where
 kind:Int
 a:Int
 b:Int
 deriving DecidableEq,Inhabited
structure GAsn where
 facts:List GFact
 atoms:List GAtom
 deriving DecidableEq,Inhabited
structure GState where
 vals:List Int
 heap:List Int
 deriving DecidableEq,Inhabited
inductive GCmd where
 | mk (kind a b:Int) (test:GFact) (inv:GAsn) (body els:List GCmd)
 deriving Inhabited
def GCmd.kind:GCmd->Int | .mk k _ _ _ _ _ _=>k
def GCmd.a:GCmd->Int | .mk _ a _ _ _ _ _=>a
def GCmd.b:GCmd->Int | .mk _ _ b _ _ _ _=>b
def GCmd.test:GCmd->GFact | .mk _ _ _ t _ _ _=>t
def GCmd.inv:GCmd->GAsn | .mk _ _ _ _ i _ _=>i
def GCmd.body:GCmd->List GCmd | .mk _ _ _ _ _ l _=>l
def GCmd.els:GCmd->List GCmd | .mk _ _ _ _ _ _ l=>l
inductive XCmd where
 | mk (kind a b:Int) (test:GFact) (inv:GAsn) (bv:Value) (body:List XCmd) (lv:Value) (els:List XCmd)
def XCmd.kind:XCmd->Int | .mk k _ _ _ _ _ _ _ _=>k
def XCmd.a:XCmd->Int | .mk _ a _ _ _ _ _ _ _=>a
def XCmd.b:XCmd->Int | .mk _ _ b _ _ _ _ _ _=>b
def XCmd.test:XCmd->GFact | .mk _ _ _ t _ _ _ _ _=>t
def XCmd.inv:XCmd->GAsn | .mk _ _ _ _ i _ _ _ _=>i
def XCmd.bv:XCmd->Value | .mk _ _ _ _ _ v _ _ _=>v
def XCmd.body:XCmd->List XCmd | .mk _ _ _ _ _ _ l _ _=>l
def XCmd.lv:XCmd->Value | .mk _ _ _ _ _ _ _ v _=>v
def XCmd.els:XCmd->List XCmd | .mk _ _ _ _ _ _ _ _ l=>l
instance:Inhabited XCmd:=⟨.mk 0 0 0 ⟨false,0,0⟩ ⟨[],[]⟩ (.slice none 0 0) [] (.slice none 0 0) []⟩
inductive Ty where
 | int | bool | u8 | fact | atom | cmd | ints | asn | cmds | cpair | lcmd | xcmd | lfact | latom | str
 deriving DecidableEq
@[reducible] def Ty.den:Ty->Type
 | .int=>Int
 | .bool=>Bool
 | .u8=>UInt8
 | .fact=>GFact
 | .atom=>GAtom
 | .cmd=>GCmd
 | .ints=>List Int
 | .asn=>GAsn
 | .cmds=>List GCmd
 | .cpair=>(List XCmd × Value) × (List XCmd × Value)
 | .lcmd=>GCmd
 | .xcmd=>XCmd
 | .lfact=>GFact
 | .latom=>GAtom
 | .str=>ByteArray
class Base where
 n0:Nat
 nz:Nat
 le:nz<=n0
 gs:Option (Nat × Array Value):=none
 gl:∀ b vs,gs=some (b,vs)->b < nz:=by intro _ _ h;cases h
def Ty.pm:Ty->Bool
 | .cmd=>true
 | .xcmd=>true
 | .fact=>true
 | .atom=>true
 | _=>false
inductive DC where
 | val (x:Value)
 | arr (t:Ty) (xs:List t.den)
 | fix (t:Ty) (xs:List t.den) (v:Value)      -- a slice whose very value is known
 | ne (t:Ty) (xs:List t.den)      -- a slice that has no room if it is empty
def Ty.cells:(t:Ty)->t.den->List DC
 | .int,n=>[.val (.int .i64 n)]
 | .bool,b=>[.val (.bool b)]
 | .u8,n=>[.val (.int .u8 (n.toNat:Int))]
 | .fact,f=>[.val (.bool f.eq),.val (.int .i64 f.a),.val (.int .i64 f.b)]
 | .atom,x=>[.val (.int .i64 x.kind),.val (.int .i64 x.a),.val (.int .i64 x.b)]
 | .cmd,c=>[.val (.int .i64 c.kind),.val (.int .i64 c.a),.val (.int .i64 c.b),.val (.bool c.test.eq),.val (.int .i64 c.test.a),.val (.int .i64 c.test.b),
   .arr .fact c.inv.facts,.arr .atom c.inv.atoms,.ne .cmd c.body,.ne .cmd c.els]
 | .ints,l=>[.arr .int l]
 | .asn,a=>[.arr .fact a.facts,.arr .atom a.atoms]
 | .cmds,l=>[.arr .cmd l]
 | .cpair,p=>[.fix .xcmd p.1.1 p.1.2,.fix .xcmd p.2.1 p.2.2]
 | .lcmd,c=>[.val (.int .i64 c.kind),.val (.int .i64 c.a),.val (.int .i64 c.b),.val (.bool c.test.eq),.val (.int .i64 c.test.a),.val (.int .i64 c.test.b),
   .arr .lfact c.inv.facts,.arr .latom c.inv.atoms,.arr .lcmd c.body,.arr .lcmd c.els]
 | .xcmd,c=>[.val (.int .i64 c.kind),.val (.int .i64 c.a),.val (.int .i64 c.b),.val (.bool c.test.eq),.val (.int .i64 c.test.a),.val (.int .i64 c.test.b),
   .arr .fact c.inv.facts,.arr .atom c.inv.atoms,.fix .xcmd c.body c.bv,.fix .xcmd c.els c.lv]
 | .lfact,f=>[.val (.bool f.eq),.val (.int .i64 f.a),.val (.int .i64 f.b)]
 | .latom,x=>[.val (.int .i64 x.kind),.val (.int .i64 x.a),.val (.int .i64 x.b)]
 | .str,s=>[.val (.string s)]
def Ty.sz:Ty->Nat
 | .int=>1
 | .bool=>1
 | .u8=>1
 | .fact=>3
 | .atom=>3
 | .cmd=>10
 | .ints=>1
 | .asn=>2
 | .cmds=>1
 | .cpair=>2
 | .lcmd=>10
 | .xcmd=>10
 | .lfact=>3
 | .latom=>3
 | .str=>1
def Ty.zero:(t:Ty)->t.den
 | .int=>(0:Int)
 | .bool=>false
 | .u8=>(0:UInt8)
 | .fact=>⟨false,0,0⟩
 | .atom=>⟨0,0,0⟩
 | .cmd=>.mk 0 0 0 ⟨false,0,0⟩ ⟨[],[]⟩ [] []
 | .ints=>[]
 | .asn=>⟨[],[]⟩
 | .cmds=>[]
 | .cpair=>(([],.slice none 0 0),([],.slice none 0 0))
 | .lcmd=>.mk 0 0 0 ⟨false,0,0⟩ ⟨[],[]⟩ [] []
 | .xcmd=>.mk 0 0 0 ⟨false,0,0⟩ ⟨[],[]⟩ (.slice none 0 0) [] (.slice none 0 0) []
 | .lfact=>⟨false,0,0⟩
 | .latom=>⟨0,0,0⟩
 | .str=>ByteArray.empty
def Ty.flat:Ty->Bool
 | .cmd=>false
 | .ints=>false
 | .asn=>false
 | .cmds=>false
 | .cpair=>false
 | .lcmd=>false
 | .xcmd=>false
 | _=>true
def Ty.dec:(t:Ty)->List DC->Option t.den
 | .int,[.val (.int .i64 n)]=>some n
 | .bool,[.val (.bool b)]=>some b
 | .u8,[.val (.int .u8 n)]=>if 0<=n/\n<=255 then some (UInt8.ofNat n.toNat) else none
 | .fact,[.val (.bool e),.val (.int .i64 a),.val (.int .i64 b)]=>some ⟨e,a,b⟩
 | .atom,[.val (.int .i64 k),.val (.int .i64 a),.val (.int .i64 b)]=>some ⟨k,a,b⟩
 | .cmd,[.val (.int .i64 k),.val (.int .i64 a),.val (.int .i64 b),.val (.bool e),.val (.int .i64 ta),.val (.int .i64 tb),
   .arr .fact fs,.arr .atom az,.ne .cmd bo,.ne .cmd el]=>some (.mk k a b ⟨e,ta,tb⟩ ⟨fs,az⟩ bo el)
 | .ints,[.arr .int l]=>some l
 | .asn,[.arr .fact f,.arr .atom x]=>some ⟨f,x⟩
 | .cmds,[.arr .cmd l]=>some l
 | .cpair,[.fix .xcmd l v,.fix .xcmd m u]=>some ((l,v),(m,u))
 | .str,[.val (.string s)]=>some s
 | _,_=>none
def castL:(t t':Ty)->List t'.den->Option (List t.den)
 | .int,.int,xs=>some xs
 | .bool,.bool,xs=>some xs
 | .u8,.u8,xs=>some xs
 | .fact,.fact,xs=>some xs
 | .atom,.atom,xs=>some xs
 | .cmd,.cmd,xs=>some xs
 | .ints,.ints,xs=>some xs
 | .asn,.asn,xs=>some xs
 | .cmds,.cmds,xs=>some xs
 | .cpair,.cpair,xs=>some xs
 | .lcmd,.lcmd,xs=>some xs
 | .xcmd,.xcmd,xs=>some xs
 | .lfact,.lfact,xs=>some xs
 | .latom,.latom,xs=>some xs
 | .str,.str,xs=>some xs
 | _,_,_=>none
def castW:(t t':Ty)->List t'.den->Option (List GCmd)
 | .cmd,.lcmd,xs=>some xs
 | _,_,_=>none
inductive CV where
 | d (x:DC)
 | nil                       -- the slice constant nil
 | own (id:Nat)
 | ptr (id off:Nat)
 | vp (id:Nat) (t:Ty) (k:Int) (off:Nat)
 | rp (t:Ty) (xs:List t.den) (k:Int) (off:Nat)
 | rv (t:Ty) (xs:List t.den)
 | rdr
 | fn (f:Nat) (ids:List Nat)
 | junk
inductive S0 where
 | c (x:CV)
 | agg (xs:List CV)
 | vec (t:Ty) (xs:List t.den)
inductive S where
 | s (x:S0)
 | tup (xs:List S0)
def junk:S:=.s (.c .junk)
abbrev sv (x:Value):S:=.s (.c (.d (.val x)))
inductive Res where
 | blk (cs:List CV)
 | vec (t:Ty) (xs:List t.den)
 | sl (fam:Nat) (t:Ty) (xs:List t.den)
 | bld (b:TypeId) (k:Nat)      -- a Builder of its type,its bytes
 | dead
structure St where
 env:Nat->S
 mem:Nat->Option Res
 sp:Nat->Bool
 fr:Nat->Bool
 base:Nat
 rd:Option Nat
def upd {α:Type} (f:Nat->α) (k:Nat) (v:α):Nat->α:=fun j=>if j=k then v else f j
def adds (m:Nat->Option Res):List (Nat × Res)->Nat->Option Res
 | []=>m
 | (k,r) :: l=>adds (upd m k (some r)) l
def sets (f:Nat->Bool):List Nat->Nat->Bool
 | []=>f
 | k :: l=>sets (upd f k true) l
def nid (base dst j:Nat):Nat:=base+16 * dst+j
inductive CK where
 | sc (z:Value)
 | sl (t:Ty)
inductive TK where
 | sc (z:Value)
 | sl (rw:Bool) (e:TypeId) (t:Ty)
 | st (cks:List CK) (fs:List (Nat × Nat × Bool))
 | ar (n:Nat) (e:TypeId) (t:Ty)
 | bld (b:TypeId)          -- a Builder
structure TI where
 sz:Nat
 bytes:Nat
 k:TK
/-- Kinds of arguments and results. -/
inductive AK where
 | int | bool | u16 | u64 | str | fact | atom | asn | state | cmd | sl (t:Ty) | kase | pkase | rdr | lcmd | xcmd | lasn
 | dasn | dstate | dsl (t:Ty)        -- results that may lie in what was passed
 | hasn                                -- its facts may lie in what was passed,its atoms are new
 | fnc (f:Nat)                       -- a function that is known
 | pasn                                -- a pointer to an assertion that is read alone
@[reducible] def AK.den:AK->Type
 | .int=>Int
 | .bool=>Bool
 | .u16=>Int
 | .u64=>Int
 | .str=>ByteArray
 | .fact=>GFact
 | .atom=>GAtom
 | .asn=>GAsn
 | .state=>GState
 | .cmd=>GCmd
 | .sl t=>List t.den
 | .kase=>List Int
 | .pkase=>List Int
 | .rdr=>Unit
 | .dasn=>GAsn
 | .dstate=>GState
 | .dsl t=>List t.den
 | .hasn=>GAsn
 | .fnc _=>Unit
 | .pasn=>GAsn
 | .lcmd=>GCmd
 | .xcmd=>XCmd
 | .lasn=>GAsn
@[reducible] def Args:List AK->Type
 | []=>Unit
 | k :: ks=>k.den × Args ks
def AK.enc:(k:AK)->k.den->S0
 | .int,n=>.c (.d (.val (.int .i64 n)))
 | .bool,b=>.c (.d (.val (.bool b)))
 | .u16,n=>.c (.d (.val (.int .u16 n)))
 | .u64,n=>.c (.d (.val (.int .u64 n)))
 | .str,s=>.c (.d (.val (.string s)))
 | .fact,f=>.agg [.d (.val (.bool f.eq)),.d (.val (.int .i64 f.a)),.d (.val (.int .i64 f.b))]
 | .atom,x=>.agg [.d (.val (.int .i64 x.kind)),.d (.val (.int .i64 x.a)),.d (.val (.int .i64 x.b))]
 | .asn,a=>.agg [.d (.arr .fact a.facts),.d (.arr .atom a.atoms)]
 | .state,s=>.agg [.d (.arr .int s.vals),.d (.arr .int s.heap)]
 | .cmd,c=>.agg [.d (.val (.int .i64 c.kind)),.d (.val (.int .i64 c.a)),.d (.val (.int .i64 c.b)),.d (.val (.bool c.test.eq)),.d (.val (.int .i64 c.test.a)),.d (.val (.int .i64 c.test.b)),
   .d (.arr .fact c.inv.facts),.d (.arr .atom c.inv.atoms),.d (.ne .cmd c.body),.d (.ne .cmd c.els)]
 | .lcmd,c=>.agg [.d (.val (.int .i64 c.kind)),.d (.val (.int .i64 c.a)),.d (.val (.int .i64 c.b)),.d (.val (.bool c.test.eq)),.d (.val (.int .i64 c.test.a)),.d (.val (.int .i64 c.test.b)),
   .d (.arr .lfact c.inv.facts),.d (.arr .latom c.inv.atoms),.d (.arr .lcmd c.body),.d (.arr .lcmd c.els)]
 | .xcmd,c=>.agg [.d (.val (.int .i64 c.kind)),.d (.val (.int .i64 c.a)),.d (.val (.int .i64 c.b)),.d (.val (.bool c.test.eq)),.d (.val (.int .i64 c.test.a)),.d (.val (.int .i64 c.test.b)),
   .d (.arr .fact c.inv.facts),.d (.arr .atom c.inv.atoms),.d (.fix .xcmd c.body c.bv),.d (.fix .xcmd c.els c.lv)]
 | .sl t,xs=>.c (.d (.arr t xs))
 | .kase,xs=>.vec .int xs
 | .pkase,xs=>.c (.rv .int xs)
 | .rdr,_=>.c .rdr
 | .dasn,a=>.agg [.d (.arr .fact a.facts),.d (.arr .atom a.atoms)]
 | .dstate,s=>.agg [.d (.arr .int s.vals),.d (.arr .int s.heap)]
 | .dsl t,xs=>.c (.d (.arr t xs))
 | .hasn,a=>.agg [.d (.arr .fact a.facts),.d (.arr .atom a.atoms)]
 | .fnc f,_=>.c (.fn f [])
 | .pasn,a=>.c (.rp .asn [a] 0 0)
 | .lasn,a=>.agg [.d (.arr .lfact a.facts),.d (.arr .latom a.atoms)]
def encs:(ks:List AK)->Args ks->List S0
 | [],_=>[]
 | k :: ks,(x,xs)=>k.enc x :: encs ks xs
def rdl (mem:Nat->Option Res) (t:Ty):CV->Option (List t.den)
 | .d (.arr t' xs)=>castL t t' xs
 | .d (.ne t' xs)=>castL t t' xs
 | .d (.fix t' xs _)=>castL t t' xs
 | .own id=>match mem id with
  | some (.sl _ t' xs)=>castL t t' xs
  | _=>none
 | .nil=>some []
 | _=>none
def rds (mem:Nat->Option Res) (t:Ty) (c:CV):Option (List t.den) :=
 match t,c with
 | .fact,.d (.arr .lfact xs)=>some xs
 | .atom,.d (.arr .latom xs)=>some xs
 | t,c=>rdl mem t c
def rdn (mem:Nat->Option Res):CV->Option (List GCmd)
 | .d (.ne .cmd xs)=>some xs
 | .own id=>match mem id with
  | some (.sl _ .cmd xs)=>some xs
  | _=>none
 | .nil=>some []
 | _=>none
def AK.dec (mem:Nat->Option Res):(k:AK)->S0->Option k.den
 | .int,.c (.d (.val (.int .i64 n)))=>some n
 | .bool,.c (.d (.val (.bool b)))=>some b
 | .u16,.c (.d (.val (.int .u16 n)))=>some n
 | .u64,.c (.d (.val (.int .u64 n)))=>some n
 | .str,.c (.d (.val (.string s)))=>some s
 | .fact,.agg [.d (.val (.bool e)),.d (.val (.int .i64 a)),.d (.val (.int .i64 b))]=>some ⟨e,a,b⟩
 | .atom,.agg [.d (.val (.int .i64 k)),.d (.val (.int .i64 a)),.d (.val (.int .i64 b))]=>some ⟨k,a,b⟩
 | .asn,.agg [f,a]=>match rdl mem .fact f,rdl mem .atom a with
  | some fs,some az=>some ⟨fs,az⟩
  | _,_=>none
 | .state,.agg [v,h]=>match rdl mem .int v,rdl mem .int h with
  | some vs,some hs=>some ⟨vs,hs⟩
  | _,_=>none
 | .cmd,.agg [.d (.val (.int .i64 k)),.d (.val (.int .i64 a)),.d (.val (.int .i64 b)),.d (.val (.bool e)),.d (.val (.int .i64 ta)),.d (.val (.int .i64 tb)),fs,az,bo,el] =>
  match rdl mem .fact fs,rdl mem .atom az,rdn mem bo,rdn mem el with
  | some fs,some az,some bo,some el=>some (.mk k a b ⟨e,ta,tb⟩ ⟨fs,az⟩ bo el)
  | _,_,_,_=>none
 | .lcmd,.agg [.d (.val (.int .i64 k)),.d (.val (.int .i64 a)),.d (.val (.int .i64 b)),.d (.val (.bool e)),.d (.val (.int .i64 ta)),.d (.val (.int .i64 tb)),fs,az,bo,el] =>
  match rdl mem .lfact fs,rdl mem .latom az,rdl mem .lcmd bo,rdl mem .lcmd el with
  | some fs,some az,some bo,some el=>some (.mk k a b ⟨e,ta,tb⟩ ⟨fs,az⟩ bo el)
  | _,_,_,_=>none
 | .xcmd,.agg [.d (.val (.int .i64 k)),.d (.val (.int .i64 a)),.d (.val (.int .i64 b)),.d (.val (.bool e)),.d (.val (.int .i64 ta)),.d (.val (.int .i64 tb)),fs,az,.d (.fix .xcmd bo bv),.d (.fix .xcmd el lv)] =>
  match rdl mem .fact fs,rdl mem .atom az with
  | some fs,some az=>some (.mk k a b ⟨e,ta,tb⟩ ⟨fs,az⟩ bv bo lv el)
  | _,_=>none
 | .sl t,.c x=>rdl mem t x
 | .kase,.vec .int xs=>some xs
 | .pkase,.c (.ptr id 0)=>match mem id with
  | some (.vec .int xs)=>some xs
  | _=>none
 | .pkase,.c (.rv .int xs)=>some xs
 | .rdr,.c .rdr=>some ()
 | .lasn,.agg [f,a]=>match rdl mem .lfact f,rdl mem .latom a with
  | some fs,some az=>some ⟨fs,az⟩
  | _,_=>none
 | .fnc f,.c (.fn f' [])=>if f'=f then some () else none
 | _,_=>none
def decs (mem:Nat->Option Res):(ks:List AK)->List S0->Option (Args ks)
 | [],[]=>some ()
 | k :: ks,s :: ss=>match k.dec mem s,decs mem ks ss with
  | some x,some xs=>some (x,xs)
  | _,_=>none
 | _,_=>none
def AK.res:(k:AK)->(id0:Nat)->k.den->S0 × List (Nat × Res)
 | .asn,i,a=>(.agg [.own i,.own (i+1)],[(i,.sl i .fact a.facts),(i+1,.sl (i+1) .atom a.atoms)])
 | .state,i,s=>(.agg [.own i,.own (i+1)],[(i,.sl i .int s.vals),(i+1,.sl (i+1) .int s.heap)])
 | .sl t,i,xs=>(.c (.own i),[(i,.sl i t xs)])
 | .hasn,i,a=>(.agg [.d (.arr .fact a.facts),.own i],[(i,.sl i .atom a.atoms)])
 | k,_,x=>(k.enc x,[])
def ress:(ks:List AK)->(id0:Nat)->Args ks->List S0 × List (Nat × Res)
 | [],_,_=>([],[])
 | k :: ks,i,(x,xs)=>((k.res i x).1 :: (ress ks (i+2) xs).1,(k.res i x).2 ++ (ress ks (i+2) xs).2)
def pack1:List S0->S
 | [x]=>.s x
 | l=>.tup l
structure Con where
 aks:List AK
 rks:List AK
 pre:Args aks->Prop
 sem:(Args aks->Args rks) ⊕ (Args aks->Args rks->Prop)
 cost:Args aks->Nat:=fun _=>0
def Con.post (c:Con) (x:Args c.aks) (r:Args c.rks):Prop :=
 match c.sem with
 | .inl f=>r=f x
 | .inr p=>p x r
def Con.det (c:Con) (x:Args c.aks):Option (Args c.rks) :=
 match c.sem with
 | .inl f=>some (f x)
 | .inr _=>none
def AK.rids:AK->Nat->List Nat
 | .asn,i=>[i,i+1]
 | .state,i=>[i,i+1]
 | .sl _,i=>[i]
 | .hasn,i=>[i]
 | _,_=>[]
def rids:List AK->Nat->List Nat
 | [],_=>[]
 | k :: ks,i=>k.rids i ++ rids ks (i+2)
structure Tr where
 R:Type
 pre:Prop
 post:R->Prop
 val:R->S
 news:R->List (Nat × Res)
 fl:List Nat          -- spent
 fz:List Nat          -- frozen
 wr:Option ((Nat->Option Res)->Nat->Option Res)
 cost:Nat
 det:Option R:=none
abbrev Tr.one (v:S) (pre:Prop:=True) (news:List (Nat × Res):=[]):Tr :=
 { R:=Unit,pre,post:=fun _=>True,val:=fun _=>v,news:=fun _=>news,fl:=[],fz:=[],wr:=none,cost:=0,det:=some () }
abbrev Tr.gen (v:S) (pre:Prop) (news:List (Nat × Res)) (fl fz:List Nat) (wr:Option ((Nat->Option Res)->Nat->Option Res):=none):Tr :=
 { R:=Unit,pre,post:=fun _=>True,val:=fun _=>v,news:=fun _=>news,fl,fz,wr,cost:=0,det:=some () }
def constS:Value->S
 | .slice none 0 0=>.s (.c .nil)
 | .int k n=>sv (.int k n)
 | .bool b=>sv (.bool b)
 | .string s=>sv (.string s)
 | _=>junk
def ev (st:St):Operand->S
 | .tmp t=>st.env t
 | .const v=>constS v
 | .func f=>.s (.c (.fn f []))
 | .global _=>junk
def free (st:St) (d j:Nat):Prop:=st.mem (nid st.base d j)=none
section
variable (tab:TypeId->Option TI) (K:FuncId->Option Con)
def moveId (st:St) (d:Nat):Nat :=
 match st.mem (nid st.base d 0) with
 | none=>nid st.base d 0
 | some _=>match st.mem (nid st.base d 14) with
  | none=>nid st.base d 14
  | some _=>nid st.base d 13
def trMove (st:St) (ty d:Nat) (x:Operand):Option Tr :=
 match ev st x with
 | .s (.c .nil)=>match tab ty with
  | some ⟨_,_,.sl true _ t⟩=>some (.one (.s (.c (.own (moveId st d)))) (st.mem (moveId st d)=none) [(moveId st d,.sl (moveId st d) t [])])
  | _=>none
 | v=>some (.one v)
def trPick (st:St) (c a b:Operand):Option Tr :=
 match ev st c with
 | .s (.c (.d (.val (.bool true))))=>some (.one (ev st a))
 | .s (.c (.d (.val (.bool false))))=>some (.one (ev st b))
 | _=>none
def zcells (base d:Nat):List CK->Nat->List CV × List (Nat × Res)
 | [],_=>([],[])
 | .sc z :: l,j=>(.d (.val z) :: (zcells base d l (j+1)).1,(zcells base d l (j+1)).2)
 | .sl t :: l,j=>(.own (nid base d j) :: (zcells base d l (j+1)).1,(nid base d j,.sl (nid base d j) t []) :: (zcells base d l (j+1)).2)
def allFree (st:St):List (Nat × Res)->Prop
 | []=>True
 | (k,_) :: l=>st.mem k=none/\allFree st l
def zeroOf (base d:Nat):TK->Option (Res × List (Nat × Res))
 | .sc z=>some (.blk [.d (.val z)],[])
 | .sl true _ t=>some (.blk [.own (nid base d 0)],[(nid base d 0,.sl (nid base d 0) t [])])
 | .st cks _=>some (.blk (zcells base d cks 0).1,(zcells base d cks 0).2)
 | .ar n _ t=>some (.vec t (List.replicate n t.zero),[])
 | .bld b=>some (.bld b (nid base d 0),[(nid base d 0,.sl (nid base d 0) .u8 [])])
 | _=>none
def trAlloc (st:St) (ty d:Nat):Option Tr :=
 match tab ty with
 | some ti=>match zeroOf st.base d ti.k with
  | some (r,l)=>some (.one (.s (.c (.ptr (nid st.base d 15) 0))) (allFree st ((nid st.base d 15,r) :: l)) ((nid st.base d 15,r) :: l))
  | none=>none
 | none=>none
def trBox (st:St) (d:Nat) (x:Operand):Option Tr :=
 match ev st x with
 | .s (.c .junk)=>none
 | .s (.c v)=>some (.one (.s (.c (.ptr (nid st.base d 15) 0))) (free st d 15) [(nid st.base d 15,.blk [v])])
 | .s (.agg vs)=>some (.one (.s (.c (.ptr (nid st.base d 15) 0))) (free st d 15) [(nid st.base d 15,.blk vs)])
 | .s (.vec t xs)=>some (.one (.s (.c (.ptr (nid st.base d 15) 0))) (free st d 15) [(nid st.base d 15,.vec t xs)])
 | .tup _=>none
def putc (cs:List CV) (off:Nat):List CV->List CV
 | []=>cs
 | v :: l=>putc (cs.set off v) (off+1) l
def partCells (sz:Nat):S->Option (List CV)
 | .s (.c .junk)=>none
 | .s (.c v)=>if sz=1 then some [v] else none
 | .s (.agg vs)=>if vs.length=sz then some vs else none
 | _=>none
def fills (st:St) (fs:List (Nat × Nat × Bool)) (cs:List CV):List (Nat × Operand)->Option (List CV)
 | []=>some cs
 | (i,x) :: l=>match fs[i]? with
  | some (off,sz,_)=>match partCells sz (ev st x) with
   | some vs=>if off+vs.length<=cs.length then fills st fs (putc cs off vs) l else none
   | none=>none
  | none=>none
def ownDC:(t:Ty)->List t.den->DC
 | .cmd,xs=>.ne .cmd xs
 | t,xs=>.arr t xs
def datas (mem:Nat->Option Res):List CV->Option (List DC × List Nat)
 | []=>some ([],[])
 | v :: l=>match datas mem l with
  | none=>none
  | some (ds,ids)=>match v with
   | .d x=>some (x :: ds,ids)
   | .own id=>match mem id with
    | some (.sl _ t xs)=>some (ownDC t xs :: ds,id :: ids)
    | _=>none
   | _=>none
def wkDC (t:Ty):DC->DC
 | .ne t' xs=>match t with
  | .cmd=>.ne t' xs
  | _=>.arr t' xs
 | d=>d
def elemOf (mem:Nat->Option Res) (t:Ty) (s:S):Option (t.den × List Nat) :=
 match partCells t.sz s with
 | some vs=>match datas mem vs with
  | some (ds,ids)=>match t.dec (ds.map (wkDC t)) with
   | some x=>some (x,ids)
   | none=>none
  | none=>none
 | none=>none
def zv:DC->Value
 | .val x=>x
 | .arr _ _=>.slice none 0 0
 | .ne _ _=>.slice none 0 0
 | .fix _ _ v=>v
def Ty.zvals (t:Ty):List Value:=(t.cells t.zero).map zv
def zeq:Value->Value->Bool
 | .int k n,.int k' n'=>decide (k=k') && decide (n=n')
 | .bool a,.bool b=>a == b
 | .string a,.string b=>decide (a.data=b.data)
 | .slice none 0 0,.slice none 0 0=>true
 | .pointer none,.pointer none=>true
 | _,_=>false
theorem zeq_sound {a b:Value} (h:zeq a b=true):a=b:=by
 unfold zeq at h
 split at h
 ·simp at h;obtain ⟨h1,h2⟩:=h;subst h1 h2;rfl
 ·simp at h;subst h;rfl
 ·rename_i a b
  simp only [decide_eq_true_eq] at h
  cases a;cases b;simp only at h;subst h;rfl
 ·rfl
 ·rfl
 ·cases h
def zlist:List Value->List Value->Bool
 | [],[]=>true
 | a :: l,b :: l'=>zeq a b && zlist l l'
 | _,_=>false
theorem zlist_sound:∀ {l l':List Value},zlist l l'=true->l=l':=by
 intro l
 induction l with
 | nil=>intro l' h;cases l' with
  | nil=>rfl
  | cons _ _=>cases h
 | cons a l ih =>
  intro l' h
  cases l' with
  | nil=>cases h
  | cons b l' =>
   simp only [zlist,Bool.and_eq_true] at h
   rw [zeq_sound h.1,ih h.2]
def zeroC (t:Ty):Operand->Bool
 | .const (.agg cs)=>zlist cs.toList t.zvals
 | _=>false
def elemX (st:St) (t:Ty) (x:Operand):Option (t.den × List Nat) :=
 match zeroC t x with
 | true=>some (t.zero,[])
 | false=>elemOf st.mem t (ev st x)
theorem zeroC_inv {t:Ty} {x:Operand} (h:zeroC t x=true):∃ cs:Array Value,x=.const (.agg cs)/\cs.toList=t.zvals:=by
 unfold zeroC at h
 split at h
 ·exact ⟨_,rfl,zlist_sound h⟩
 ·cases h
theorem elemX_inv {st:St} {t:Ty} {x:Operand} {y:t.den} {A:List Nat} (h:elemX st t x=some (y,A)):elemOf st.mem t (ev st x)=some (y,A) ∨ (A=[]/\y=t.zero/\∃ cs:Array Value,x=.const (.agg cs)/\cs.toList=t.zvals):=by
 unfold elemX at h
 split at h
 ·rename_i hz
  injection h with h;injection h with h1 h2
  exact .inr ⟨h2.symm,h1.symm,zeroC_inv hz⟩
 ·exact .inl h
def elemsOf (st:St) (t:Ty):Nat->List (Nat × Operand)->Option (List t.den × List Nat)
 | _,[]=>some ([],[])
 | k,(i,x) :: l=>if i=k then match elemX st t x,elemsOf st t (k+1) l with
   | some (y,a),some (ys,b)=>some (y :: ys,a ++ b)
   | _,_=>none
  else none
def notSpent (st:St):List Nat->Prop
 | []=>True
 | k :: l=>st.sp k=false/\notSpent st l
def trBuild (st:St) (ty d:Nat) (ps:List (Nat × Operand)):Option Tr :=
 match tab ty with
 | some ⟨_,_,.st cks fs⟩=>match fills st fs (zcells st.base d cks 0).1 ps with
  | some cs=>some (.one (.s (.agg cs)) (allFree st (zcells st.base d cks 0).2) (zcells st.base d cks 0).2)
  | none=>none
 | some ⟨_,_,.ar n _ t⟩=>match elemsOf st t 0 ps with
  | some (xs,[])=>if xs.length=n then some (.one (.s (.vec t xs))) else if xs.length=0 then some (.one (.s (.vec t (List.replicate n t.zero)))) else none
  | _=>none
 | _=>none
def trBuildSlice (st:St) (ty d n:Nat) (ps:List (Nat × Operand)):Option Tr :=
 match tab ty with
 | some ⟨_,_,.sl true _ t⟩=>match elemsOf st t 0 ps with
  | some (xs,ids)=>if xs.length=n/\n * t.sz<=16777216 then
    some (.gen (.s (.c (.own (nid st.base d 0)))) (free st d 0/\notSpent st ids) [(nid st.base d 0,.sl (nid st.base d 0) t xs)] [] ids)
   else none
  | none=>none
 | _=>none
def wkS:S->S
 | .s (.c (.d (.ne t xs)))=>.s (.c (.d (.arr t xs)))
 | x=>x
def xfix:S->Option (List XCmd × Value)
 | .s (.c (.d (.fix .xcmd xs v)))=>some (xs,v)
 | _=>none
def ptrAt:Value->Nat->Value
 | .slice (some ⟨b,o,t⟩) _ _,k=>.pointer (some ⟨b,o+k * 10,t⟩)
 | v,_=>v
def weak:CV->CV
 | .d (.fix .xcmd xs v)=>.d (.fix .xcmd xs v)
 | .d (.fix t xs _)=>.d (.arr t xs)
 | c=>c
def cellsAt (k:TK) (sz off:Nat) (cs:List CV):Option S :=
 match k with
 | .st _ _=>if off+sz<=cs.length/\0 < sz then some (.s (.agg ((cs.drop off).take sz))) else none
 | .ar _ _ _=>none
 | .bld _=>none
 | _=>match cs[off]? with
  | some v=>some (.s (.c (weak v)))
  | none=>none
def dcellsAt (k:TK) (sz off:Nat) (cs:List DC):Option S:=cellsAt k sz off (cs.map .d)
def trLoad (st:St) (ty:Nat) (x:Operand):Option Tr :=
 match tab ty,ev st x with
 | some ti,.s (.c (.ptr id off))=>match st.mem id with
  | some (.blk cs)=>(cellsAt ti.k ti.sz off cs).map fun v=>.one v
  | some (.vec t xs)=>match ti.k,off with
   | .ar _ _ _,0=>some (.one (.s (.vec t xs)) (ti.sz=xs.length * t.sz))
   | _,_=>none
  | _=>none
 | some ti,.s (.c (.vp id t k off))=>match st.mem id with
  | some (.vec t' xs)=>match castL t t' xs with
   | some xs=>(dcellsAt ti.k ti.sz off (t.cells (xs.getD k.toNat t.zero))).map fun v=>.one v
   | none=>none
  | some (.sl _ t' xs)=>match castL t t' xs with
   | some xs=>(dcellsAt ti.k ti.sz off (t.cells (xs.getD k.toNat t.zero))).map fun v=>.one v
   | none=>none
  | _=>none
 | some ti,.s (.c (.rp t xs k off))=>(dcellsAt ti.k ti.sz off (t.cells (xs.getD k.toNat t.zero))).map fun v=>.one v
 | some ti,.s (.c (.rv t xs))=>match ti.k with
  | .ar _ _ _=>some (.one (.s (.vec t xs)) (ti.sz=xs.length * t.sz))
  | _=>none
 | _,_=>none
def updElem (t:Ty) (x:t.den) (off:Nat) (ds:List DC):Option t.den :=
 if off+ds.length<=t.sz then t.dec ((t.cells x).take off ++ ds ++ (t.cells x).drop (off+ds.length)) else none
def kill (fam id:Nat) (mem:Nat->Option Res):Nat->Option Res:=fun j =>
 match mem j with
 | some (.sl f t xs)=>if j ≠ id/\f=fam then some .dead else some (.sl f t xs)
 | r=>r
def noJunk:List CV->Bool
 | []=>true
 | .junk :: _=>false
 | _ :: l=>noJunk l
abbrev Tr.write (pre:Prop) (wr:(Nat->Option Res)->Nat->Option Res) (fz:List Nat:=[]):Tr :=
 { R:=Unit,pre,post:=fun _=>True,val:=fun _=>junk,news:=fun _=>[],fl:=[],fz,wr:=some wr,cost:=0,det:=some () }
def trStore (st:St) (ty:Nat) (x v:Operand):Option Tr :=
 match tab ty,ev st x with
 | some ti,.s (.c (.ptr id off))=>match st.mem id with
  | some (.blk cs)=>match ti.k,partCells ti.sz (ev st v) with
   | .ar _ _ _,_=>none
   | .bld _,_=>none
   | _,some vs=>if off+vs.length<=cs.length/\noJunk vs=true then some (.write (st.sp id=false/\st.fr id=false) fun m=>upd m id (some (.blk (putc cs off vs)))) else none
   | _,none=>none
  | some (.vec t xs)=>match ev st v with
   | .s (.vec t' ys)=>match castL t t' ys with
    | some ys=>if off=0/\ti.sz=xs.length * t.sz then some (.write (ys.length=xs.length/\st.sp id=false/\st.fr id=false) fun m=>upd m id (some (.vec t ys))) else none
    | none=>none
   | _=>none
  | _=>none
 | some ti,.s (.c (.vp id t k off))=>match partCells ti.sz (ev st v) with
  | some vs=>match datas st.mem vs with
   | some (ds,ids)=>match st.mem id with
    | some (.vec t' xs)=>match castL t t' xs with
     | some xs=>match updElem t (xs.getD k.toNat t.zero) off ds with
      | some y=>some (.write (st.sp id=false/\st.fr id=false/\notSpent st ids) (fun m=>upd m id (some (.vec t (xs.set k.toNat y)))) ids)
      | none=>none
     | none=>none
    | some (.sl fam t' xs)=>match castL t t' xs with
     | some xs=>match updElem t (xs.getD k.toNat t.zero) off ds with
      | some y=>some (.write (st.sp id=false/\st.fr id=false/\notSpent st ids/\id ∉ ids) (fun m=>upd (kill fam id m) id (some (.sl fam t (xs.set k.toNat y)))) ids)
      | none=>none
     | none=>none
    | _=>none
   | none=>none
  | none=>none
 | _,_=>none
def ptrIds (st:St):List Operand->Option (List Nat)
 | []=>some []
 | x :: l=>match ev st x,ptrIds st l with
  | .s (.c (.ptr id 0)),some ids=>some (id :: ids)
  | _,_=>none
def trMakeFunc (st:St) (f:Nat) (first caps:List Operand):Option Tr :=
 match first,ptrIds st caps with
 | [],some ids=>some (.one (.s (.c (.fn f ids))))
 | _,_=>none
def trNilCheck (st:St) (x:Operand):Option Tr :=
 match ev st x with
 | .s (.c (.ptr id off))=>some (.one (.s (.c (.ptr id off))))
 | .s (.c (.vp id t k off))=>some (.one (.s (.c (.vp id t k off))))
 | .s (.c (.rp t xs k off))=>some (.one (.s (.c (.rp t xs k off))))
 | .s (.c (.rv t xs))=>some (.one (.s (.c (.rv t xs))))
 | .s (.c .rdr)=>some (.one (.s (.c .rdr)))
 | _=>none
def inK (k:IntKind) (n:Int):Prop:=k.min<=n/\n<=k.max
def binI (op:BinOp) (k:IntKind) (a b:Int):Option (Prop × Value) :=
 match op with
 | .add=>some (inK k (a+b),.int k (a+b))
 | .sub=>some (inK k (a - b),.int k (a - b))
 | .mul=>some (inK k (a * b),.int k (a * b))
 | .quo=>some (b ≠ 0/\inK k (a.tdiv b),.int k (a.tdiv b))
 | .rem=>some (b ≠ 0,.int k (a.tmod b))
 | .and=>some (True,.int k (bits .and k a b))
 | .or=>some (True,.int k (bits .or k a b))
 | .xor=>some (True,.int k (bits .xor k a b))
 | .eql=>some (True,.bool (a == b))
 | .neq=>some (True,.bool (a != b))
 | .lss=>some (True,.bool (decide (a < b)))
 | .leq=>some (True,.bool (decide (a<=b)))
 | .gtr=>some (True,.bool (decide (b < a)))
 | .geq=>some (True,.bool (decide (b<=a)))
 | _=>none
def shf (op:BinOp) (k:IntKind) (a b:Int):Option (Prop × Value) :=
 match op with
 | .shl=>some (0<=b,.int k (k.wrap (a * 2 ^ (min b.toNat k.bits))))
 | .shr=>some (0<=b,.int k (a.fdiv (2 ^ (min b.toNat k.bits))))
 | _=>none
def isShift:BinOp->Bool
 | .shl=>true
 | .shr=>true
 | _=>false
def eqCells:List CK->List CV->List CV->Option Bool
 | [],[],[]=>some true
 | .sc (.int _ _) :: cks,.d (.val (.int k a)) :: l,.d (.val (.int k' b)) :: r=>if k=k' then (eqCells cks l r).map fun q=>(a == b) && q else none
 | .sc (.bool _) :: cks,.d (.val (.bool a)) :: l,.d (.val (.bool b)) :: r=>(eqCells cks l r).map fun q=>(a == b) && q
 | _,_,_=>none
def aggS (st:St):Operand->Option (List CV)
 | .const (.agg vs)=>some (vs.toList.map fun v=>.d (.val v))
 | x=>match ev st x with
  | .s (.agg vs)=>some vs
  | _=>none
def trBin (st:St) (op:BinOp) (ty:Nat) (x y:Operand):Option Tr :=
 match ev st x,ev st y with
 | .s (.c (.d (.val (.int k a)))),.s (.c (.d (.val (.int k' b)))) =>
  match isShift op with
  | true=>(shf op k a b).map fun q=>.one (sv q.2) q.1
  | false=>if k=k' then (binI op k a b).map fun q=>.one (sv q.2) q.1 else none
 | .s (.c (.d (.val (.bool a)))),.s (.c (.d (.val (.bool b)))) =>
  match op,tab ty with
  | .eql,some ⟨_,_,.sc (.bool _)⟩=>some (.one (sv (.bool (a == b))))
  | .neq,some ⟨_,_,.sc (.bool _)⟩=>some (.one (sv (.bool (a != b))))
  | _,_=>none
 | .s (.c (.d (.val (.string a)))),.s (.c (.d (.val (.string b)))) =>
  match op with
  | .eql=>some (.one (sv (.bool (a.toList == b.toList))))
  | .neq=>some (.one (sv (.bool (!(a.toList == b.toList)))))
  | .add=>some (.one (sv (.string (a ++ b))) (((a.size+b.size:Nat):Int)<=9223372036854775807))
  | _=>none
 | .s _,.s _=>match tab ty,aggS st x,aggS st y with
  | some ⟨_,_,.st cks _⟩,some l,some r=>match op with
   | .eql=>(eqCells cks l r).map fun q=>.one (sv (.bool q))
   | .neq=>(eqCells cks l r).map fun q=>.one (sv (.bool (!q)))
   | _=>none
  | _,_,_=>none
 | _,_=>none
def trUn (st:St) (op:UnOp) (x:Operand):Option Tr :=
 match op,ev st x with
 | .not,.s (.c (.d (.val (.bool b))))=>some (.one (sv (.bool (!b))))
 | .neg,.s (.c (.d (.val (.int k n))))=>some (.one (sv (.int k (-n))) (inK k (-n)))
 | _,_=>none
def trConvert (st:St) (src dst:Nat) (x:Operand):Option Tr :=
 match ev st x,tab src,tab dst with
 | .s (.c (.d (.val (.int _ n)))),some _,some ⟨_,_,.sc (.int k _)⟩=>some (.one (sv (.int k n)) (inK k n))
 | _,_,_=>none
def trFieldAddr (st:St) (ty:Nat) (x:Operand) (f:Nat):Option Tr :=
 match tab ty with
 | some ⟨_,_,.st _ fs⟩=>match fs[f]? with
  | some (off,_+1,_)=>match ev st x with
   | .s (.c (.ptr id o))=>some (.one (.s (.c (.ptr id (o+off)))))
   | .s (.c (.vp id t k o))=>some (.one (.s (.c (.vp id t k (o+off)))))
   | .s (.c (.rp t xs k o))=>some (.one (.s (.c (.rp t xs k (o+off)))))
   | _=>none
  | _=>none
 | _=>none
def trField (st:St) (ty:Nat) (x:Operand) (f:Nat):Option Tr :=
 match tab ty with
 | some ⟨_,_,.st _ fs⟩=>match fs[f]?,ev st x with
  | some (off,sz,true),.s (.agg vs)=>if off+sz<=vs.length then some (.one (.s (.agg ((vs.drop off).take sz)))) else none
  | some (off,_,false),.s (.agg vs)=>match vs[off]? with
   | some v=>some (.one (.s (.c v)))
   | none=>none
  | _,_=>none
 | _=>none
def trIndexAddr (st:St) (ty:Nat) (x i:Operand):Option Tr :=
 match tab ty,ev st i with
 | some ⟨_,_,.sl _ _ t⟩,.s (.c (.d (.val (.int _ k))))=>match xfix (ev st x) with
  | some (xs,v)=>if t.sz=10 then match i with
    | .const _=>some (.one (sv (ptrAt v k.toNat)) (0<=k/\k < xs.length))
    | _=>some (.one (.s (.c (.rp .xcmd xs k 0))) (0<=k/\k < xs.length))
   else none
  | none=>match wkS (ev st x) with
  | .s (.c (.d (.arr t' xs)))=>match castL t t' xs with
   | some xs=>some (.one (.s (.c (.rp t xs k 0))) (0<=k/\k < xs.length))
   | none=>match castW t t' xs with
    | some xs=>some (.one (.s (.c (.rp .lcmd xs k 0))) (0<=k/\k < xs.length))
    | none=>none
  | .s (.c (.own id))=>match st.mem id with
   | some (.sl _ t' xs)=>match castL t t' xs with
    | some xs=>some (.one (.s (.c (.vp id t k 0))) (0<=k/\k < xs.length))
    | none=>none
   | _=>none
  | _=>none
 | some ⟨_,_,.ar n _ t⟩,.s (.c (.d (.val (.int _ k))))=>match ev st x with
  | .s (.c (.ptr id 0))=>match st.mem id with
   | some (.vec t' xs)=>match castL t t' xs with
    | some xs=>some (.one (.s (.c (.vp id t k 0))) (0<=k/\k < n/\xs.length=n))
    | none=>none
   | _=>none
  | .s (.c (.rv t' xs))=>match castL t t' xs with
   | some xs=>some (.one (.s (.c (.rp t xs k 0))) (0<=k/\k < n/\xs.length=n))
   | none=>none
  | _=>none
 | _,_=>none
def trIndex (st:St) (ty:Nat) (x i:Operand):Option Tr :=
 match tab ty,ev st i,ev st x with
 | some ⟨_,_,.sc (.string _)⟩,.s (.c (.d (.val (.int _ k)))),.s (.c (.d (.val (.string s)))) =>
  some (.one (sv (.int .u8 ((s.data.toList.getD k.toNat 0).toNat:Int))) (0<=k/\k < s.size))
 | some ⟨_,_,.ar n _ t⟩,.s (.c (.d (.val (.int _ k)))),.s (.vec t' xs)=>match castL t t' xs with
  | some xs=>if t.sz=1 then (dcellsAt (.sc (.bool false)) 1 0 (t.cells (xs.getD k.toNat t.zero))).map fun v=>.one v (0<=k/\k < n/\xs.length=n) else none
  | none=>none
 | _,_,_=>none
def intOp (st:St):Option Operand->Option (Option Int)
 | none=>some none
 | some x=>match ev st x with
  | .s (.c (.d (.val (.int _ k))))=>some (some k)
  | _=>none
def trSlice (st:St) (ty:Nat) (x:Operand) (lo hi:Option Operand):Option Tr :=
 match tab ty,intOp st lo,intOp st hi with
 | some ⟨_,_,.sc (.string _)⟩,some l,some h=>match ev st x with
  | .s (.c (.d (.val (.string s)))) =>
   some (.one (sv (.string (s.extract (l.getD 0).toNat (h.getD s.size).toNat))) (0<=l.getD 0/\l.getD 0<=h.getD s.size/\h.getD s.size<=s.size))
  | _=>none
 | some ⟨_,_,.sl _ _ t⟩,some l,some h=>match wkS (ev st x) with
  | .s (.c (.d (.arr t' xs)))=>match castL t t' xs with
   | some xs=>some (.one (.s (.c (.d (.arr t ((xs.drop (l.getD 0).toNat).take ((h.getD xs.length).toNat - (l.getD 0).toNat))))))
     (0<=l.getD 0/\l.getD 0<=h.getD xs.length/\h.getD xs.length<=xs.length))
   | none=>none
  | .s (.c (.own id))=>match st.mem id with
   | some (.sl _ t' xs)=>match castL t t' xs with
    | some xs=>some (.gen (.s (.c (.d (.arr t ((xs.drop (l.getD 0).toNat).take ((h.getD xs.length).toNat - (l.getD 0).toNat))))))
      (st.sp id=false/\0<=l.getD 0/\l.getD 0<=h.getD xs.length/\h.getD xs.length<=xs.length) [] [] [id])
    | none=>none
   | _=>none
  | _=>none
 | some ⟨_,_,.ar n _ t⟩,some none,some none=>match ev st x with
  | .s (.c (.ptr id 0))=>match st.mem id with
   | some (.vec t' xs)=>match castL t t' xs with
    | some xs=>some (.gen (.s (.c (.d (.arr t xs)))) (xs.length=n/\n<=4294967296) [] [] [id])
    | none=>none
   | _=>none
  | _=>none
 | _,_,_=>none
def tightM:Ty->Int->Int->Prop
 | .cmd,n,m=>n=m
 | _,_,_=>True
def trMakeSlice (st:St) (ty d:Nat) (l c:Operand):Option Tr :=
 match tab ty,ev st l,ev st c with
 | some ⟨_,_,.sl true _ t⟩,.s (.c (.d (.val (.int _ n)))),.s (.c (.d (.val (.int _ m)))) =>
  some (.one (.s (.c (.own (nid st.base d 0)))) (free st d 0/\0<=n/\n<=m/\m<=4294967296/\tightM t n m) [(nid st.base d 0,.sl (nid st.base d 0) t (List.replicate n.toNat t.zero))])
 | _,_,_=>none
def trExtract (st:St) (x:Operand) (i:Nat):Option Tr :=
 match ev st x with
 | .tup l=>match l[i]? with
  | some s=>some (.one (.s s))
  | none=>none
 | _=>none
def lenW:Ty->CV->Option Nat
 | .cmd,.d (.arr .lcmd xs)=>some (List.length (α:=GCmd) xs)
 | _,_=>none
def trLen (st:St) (ty:Nat) (x:Operand):Option Tr :=
 match tab ty,ev st x with
 | some ⟨_,_,.sl _ _ t⟩,.s (.c v)=>match xfix (.s (.c v)) with
  | some (xs,_)=>some (.one (sv (.int .i64 xs.length)))
  | none=>match rdl st.mem t v with
  | some xs=>some (.one (sv (.int .i64 xs.length)))
  | none=>match lenW t v with
   | some n=>some (.one (sv (.int .i64 n)))
   | none=>none
 | some ⟨_,_,.sc (.string _)⟩,.s (.c (.d (.val (.string s))))=>some (.one (sv (.int .i64 s.size)))
 | some ⟨_,_,.ar n _ _⟩,_=>some (.one (sv (.int .i64 n)))
 | _,_=>none
def trAppend (st:St) (ty d:Nat) (x y:Operand):Option Tr :=
 match tab ty,ev st x,ev st y with
 | some ⟨_,_,.sl true _ t⟩,.s (.c (.own id)),.s (.c v)=>match st.mem id,rds st.mem t v with
  | some (.sl fam t' xs),some ys=>match castL t t' xs with
   | some xs=>some (.gen (.s (.c (.own (nid st.base d 0)))) (free st d 0/\st.sp id=false/\st.fr id=false/\xs.length+ys.length<=4294967296)
     [(nid st.base d 0,.sl fam t (xs ++ ys))] [id] [])
   | none=>none
  | _,_=>none
 | some ⟨_,_,.sl true _ .cmd⟩,.s (.c (.d (.ne .cmd xs))),.s (.c v)=>match rdl st.mem .cmd v with
  | some ys=>some (.one (.s (.c (.own (nid st.base d 0)))) (free st d 0/\xs=[]/\0 < ys.length/\ys.length<=4294967296) [(nid st.base d 0,.sl (nid st.base d 0) .cmd ys)])
  | none=>none
 | _,_,_=>none
def trCopy (st:St) (ty:Nat) (x y:Operand):Option Tr :=
 match tab ty,ev st x,ev st y with
 | some ⟨_,_,.sl true _ t⟩,.s (.c (.own id)),.s (.c v)=>match st.mem id,rdl st.mem t v with
  | some (.sl fam t' xs),some ys=>match castL t t' xs with
   | some xs=>if t.sz=1 then some (.gen (sv (.int .i64 (min ys.length xs.length:Nat))) (st.sp id=false/\st.fr id=false) [] [] []
     (some fun m=>upd (kill fam id m) id (some (.sl fam t (ys.take xs.length ++ xs.drop ys.length))))) else none
   | none=>none
  | _,_=>none
 | _,_,_=>none
def argsS (st:St):List Operand->Option (List S0)
 | []=>some []
 | x :: l=>match ev st x,argsS st l with
  | .s s,some ss=>some (s :: ss)
  | _,_=>none
def nested:List AK->Bool
 | []=>false
 | .cmd :: _=>true
 | .dasn :: _=>true
 | .dstate :: _=>true
 | .dsl _ :: _=>true
 | .hasn :: _=>true
 | .pasn :: _=>true
 | .lcmd :: _=>true
 | .xcmd :: _=>true
 | .lasn :: _=>true
 | .pkase :: _=>true
 | .sl t :: l=>!t.flat || nested l
 | _ :: l=>nested l
def hasRdr:List AK->Bool
 | []=>false
 | .rdr :: _=>true
 | _ :: l=>hasRdr l
def refsC:CV->List Nat
 | .own id=>[id]
 | .ptr id _=>[id]
 | .vp id _ _ _=>[id]
 | .fn _ ids=>ids
 | _=>[]
def refsCs:List CV->List Nat
 | []=>[]
 | v :: l=>refsC v ++ refsCs l
def ownsC (mem:Nat->Option Res):List Nat->Option (List Nat)
 | []=>some []
 | id :: l=>match mem id,ownsC mem l with
  | some (.sl _ _ _),some ids=>some (id :: ids)
  | _,_=>none
def refsAr:List S0->List Nat
 | []=>[]
 | .c v :: l=>refsC v ++ refsAr l
 | .agg vs :: l=>refsCs vs ++ refsAr l
 | .vec _ _ :: l=>refsAr l
def rdFits (rd:Option Nat) (c:Nat) (h:Bool):Prop :=
 match h with
 | false=>True
 | true=>match rd with
  | some n=>n+c<=1099511627776
  | none=>False
def freeL (st:St):List Nat->Prop
 | []=>True
 | k :: l=>st.mem k=none/\freeL st l
def costIf (h:Bool) (c:Nat):Nat :=
 match h with
 | true=>c
 | false=>0
def trCall (st:St) (d:Nat) (f:Nat) (args:List S0):Option Tr :=
 match K f with
 | some con=>match decs st.mem con.aks args with
  | some x=>match nested con.rks with
   | true=>match ownsC st.mem (refsAr args) with
    | some ids=>some { R:=Args con.rks,pre:=con.pre x/\notSpent st ids/\rdFits st.rd (con.cost x) (hasRdr con.aks)/\freeL st (rids con.rks (nid st.base d 0)),post:=con.post x,val:=fun r=>pack1 (ress con.rks (nid st.base d 0) r).1,news:=fun r=>(ress con.rks (nid st.base d 0) r).2,fl:=[],fz:=ids,wr:=none,cost:=costIf (hasRdr con.aks) (con.cost x),det:=con.det x }
    | none=>none
   | false=>some { R:=Args con.rks,pre:=con.pre x/\rdFits st.rd (con.cost x) (hasRdr con.aks)/\freeL st (rids con.rks (nid st.base d 0)),post:=con.post x,val:=fun r=>pack1 (ress con.rks (nid st.base d 0) r).1,news:=fun r=>(ress con.rks (nid st.base d 0) r).2,fl:=[],fz:=[],wr:=none,cost:=costIf (hasRdr con.aks) (con.cost x),det:=con.det x }
  | none=>none
 | none=>none
end
end Go.SE

namespace Go.SE
def St.put (st:St) (dst:Option Nat) (v:S):St :=
 match dst with
 | some d=>{ st with env:=upd st.env d v }
 | none=>st
def St.app (st:St) (dst:Option Nat) (t:Tr) (r:t.R):St where
 env:=match dst with
  | some d=>upd st.env d (t.val r)
  | none=>st.env
 mem:=adds (match t.wr with
  | some f=>f st.mem
  | none=>st.mem) (t.news r)
 sp:=sets st.sp t.fl
 fr:=sets st.fr t.fz
 base:=st.base
 rd:=st.rd.map (·+t.cost)
def isRdr:S->Bool
 | .s (.c .rdr)=>true
 | _=>false
section
variable (tab:TypeId->Option TI) (K:FuncId->Option Con)
def trFn (st:St) (d:Nat) (f:Nat) (args:List Operand):Option Tr :=
 match argsS st args with
 | some ss=>trCall K st d f ss
 | none=>none
def trOp (o:Oper) (st:St):Option Tr :=
 match o.op with
 | .move x=>trMove tab st o.type (o.dst.getD 0) x
 | .assign x=>trMove tab st o.type (o.dst.getD 0) x
 | .pick c a b=>trPick st c a b
 | .alloc t=>trAlloc tab st t (o.dst.getD 0)
 | .box _ x=>trBox st (o.dst.getD 0) x
 | .build t ps=>trBuild tab st t (o.dst.getD 0) ps.toList
 | .buildSlice t n ps=>trBuildSlice tab st t (o.dst.getD 0) n ps.toList
 | .load t x=>trLoad tab st t x
 | .store t x v=>trStore tab st t x v
 | .nilCheck x=>trNilCheck st x
 | .binOp op t x y _=>trBin tab st op t x y
 | .unOp op _ x=>trUn st op x
 | .convert s t x=>trConvert tab st s t x
 | .fieldAddr t x f=>trFieldAddr tab st t x f
 | .field t x f=>trField tab st t x f
 | .indexAddr t x i=>trIndexAddr tab st t x i
 | .index t x i=>trIndex tab st t x i
 | .slice t x lo hi none=>trSlice tab st t x lo hi
 | .makeSlice t l c=>trMakeSlice tab st t (o.dst.getD 0) l c
 | .extract x i=>trExtract st x i
 | .call ⟨.value (.func f),args,_⟩=>trFn K st (o.dst.getD 0) f args.toList
 | .call ⟨.builtin .len,args,tys⟩=>match args.toList,tys.toList with
  | [x],[t]=>trLen tab st t x
  | _,_=>none
 | .call ⟨.builtin .append,args,tys⟩=>match args.toList,tys.toList with
  | [x,y],[t,u]=>if t=u then trAppend tab st t (o.dst.getD 0) x y else none
  | _,_=>none
 | .call ⟨.builtin .copy,args,tys⟩=>match args.toList,tys.toList with
  | [x,y],[t,u]=>if t=u then trCopy tab st t x y else none
  | _,_=>none
 | .makeFunc (.func f) first caps=>trMakeFunc st f first.toList caps.toList
 | _=>none
def vcDet {R:Type} (p:R->Prop) (post:R->Prop):Option R->Prop
 | some r=>p r
 | none=>∀ r,post r->p r
def vcTr (dst:Option Nat) (st:St) (k:St->Prop):Option Tr->Prop
 | none=>False
 | some ⟨R,pre,post,val,news,fl,fz,wr,cost,det⟩=>pre/\vcDet (fun r:R=>k (st.app dst ⟨R,pre,post,val,news,fl,fz,wr,cost,det⟩ r)) post det
def vcOp (o:Oper) (st:St) (k:St->Prop):Prop:=vcTr o.dst st k (trOp tab K o st)
def gslot (ops:Array Oper) (j:Nat):Option Nat:=(ops[j]?).bind (·.dst)
def vcIf (b:Bool) (yes no:Prop):Prop:=if b=true then yes else no
theorem vcIf_t {a b:Prop} (h:vcIf true a b):a:=by simpa [vcIf] using h
theorem vcIf_f {a b:Prop} (h:vcIf false a b):b:=by simpa [vcIf] using h
def vcStep (ops:Array Oper) (o:Oper) (st:St) (k:St->Prop):Prop :=
 match o.guard with
 | none=>vcOp tab K o st k
 | some (j,want)=>match gslot ops j with
  | none=>False
  | some g=>match st.env g with
   | .s (.c (.d (.val (.bool b)))) =>
    match want with
    | true=>vcIf b (vcOp tab K o { st with env:=upd st.env g (sv (.bool true)) } k) (k (St.put { st with env:=upd st.env g (sv (.bool false)) } o.dst (.tup [])))
    | false=>vcIf b (k (St.put { st with env:=upd st.env g (sv (.bool true)) } o.dst (.tup []))) (vcOp tab K o { st with env:=upd st.env g (sv (.bool false)) } k)
   | .tup []=>k (St.put st o.dst (.tup []))
   | _=>False
def vcOps (ops:Array Oper):List Oper->St->(St->Prop)->Prop
 | [],st,k=>k st
 | o :: rest,st,k=>vcStep tab K ops o st fun st'=>vcOps ops rest st' k
def pickOps (ops:Array Oper):List Nat->List Oper
 | []=>[]
 | i :: l=>match ops[i]? with
  | some o=>o :: pickOps ops l
  | none=>pickOps ops l
def vcEach (ops:Array Oper) (st:St) (k:St->Prop):List (List Nat)->Prop
 | []=>True
 | l :: ls=>vcOps tab K ops (pickOps ops l) st k/\vcEach ops st k ls
end
def CV.ren (ρ:Nat->Nat):CV->CV
 | .own id=>.own (ρ id)
 | .ptr id off=>.ptr (ρ id) off
 | .vp id t k off=>.vp (ρ id) t k off
 | .fn f ids=>.fn f (ids.map ρ)
 | v=>v
def S0.ren (ρ:Nat->Nat):S0->S0
 | .c v=>.c (v.ren ρ)
 | .agg vs=>.agg (vs.map (CV.ren ρ))
 | s=>s
def S.ren (ρ:Nat->Nat):S->S
 | .s x=>.s (x.ren ρ)
 | .tup l=>.tup (l.map (S0.ren ρ))
def CV.refs:CV->List Nat
 | .own id=>[id]
 | .ptr id _=>[id]
 | .vp id _ _ _=>[id]
 | .fn _ ids=>ids
 | _=>[]
def refsL:List CV->List Nat
 | []=>[]
 | v :: l=>v.refs ++ refsL l
def S0.refs:S0->List Nat
 | .c v=>v.refs
 | .agg vs=>refsL vs
 | .vec _ _=>[]
def refsT:List S0->List Nat
 | []=>[]
 | v :: l=>v.refs ++ refsT l
def S.refs:S->List Nat
 | .s x=>x.refs
 | .tup l=>refsT l
def Res.refs:Res->List Nat
 | .blk cs=>refsL cs
 | .bld _ k=>[k]
 | _=>[]
def Res.ren (ρ:Nat->Nat):Res->Res
 | .blk cs=>.blk (cs.map (CV.ren ρ))
 | .bld b k=>.bld b (ρ k)
 | r=>r
inductive Src where
 | slot (s:Nat)
 | cell (id off:Nat)
structure Own where
 id:Nat
 src:Src
 t:Ty
 xs:List t.den
structure Ann where
 α:Type
 ok:α->Prop
 mu:α->Nat
 i0:St->α
 nx:α->St->α
 live:List Nat
 sets:α->List (Nat × S)
 mids:List Nat
 blks:α->List (Nat × Res)         -- blocks and vectors with new contents (their number stays)
 owns:α->List Own
 rd:Option Nat->α->Option Nat
 base:Nat
def inL:List Nat->Nat->Bool
 | [],_=>false
 | x :: l,j=>if j=x then true else inL l j
def keepE (live:List Nat) (e:Nat->S):Nat->S:=fun j=>match inL live j with
 | true=>e j
 | false=>junk
def keepM (ids:List Nat) (m:Nat->Option Res):Nat->Option Res:=fun j=>match inL ids j with
 | true=>m j
 | false=>none
def keepB (ids:List Nat) (f:Nat->Bool):Nat->Bool:=fun j=>match inL ids j with
 | true=>f j
 | false=>false
def puts (e:Nat->S):List (Nat × S)->Nat->S
 | []=>e
 | (k,v) :: l=>puts (upd e k v) l
def ownRes:List Own->List (Nat × Res)
 | []=>[]
 | o :: l=>(o.id,.sl o.id o.t o.xs) :: ownRes l
def ownEnv:List Own->List (Nat × S)
 | []=>[]
 | ⟨id,.slot s,_,_⟩ :: l=>(s,.s (.c (.own id))) :: ownEnv l
 | ⟨_,.cell _ _,_,_⟩ :: l=>ownEnv l
def Ann.head (A:Ann) (st:St) (a:A.α):St where
 env:=puts (puts (keepE A.live st.env) (ownEnv (A.owns a))) (A.sets a)
 mem:=adds (adds (keepM A.mids st.mem) (A.blks a)) (ownRes (A.owns a))
 sp:=keepB A.mids st.sp
 fr:=keepB A.mids st.fr
 base:=A.base
 rd:=A.rd st.rd a
def srcId (st:St):Src->Option Nat
 | .slot s=>match st.env s with
  | .s (.c (.own id))=>some id
  | _=>none
 | .cell b off=>match st.mem b with
  | some (.blk cs)=>match cs[off]? with
   | some (.own id)=>some id
   | _=>none
  | some (.bld _ k)=>some k
  | _=>none
def renL (st:St):List Own->Option (List (Nat × Nat))
 | []=>some []
 | o :: l=>match srcId st o.src,renL st l with
  | some id,some m=>some ((o.id,id) :: m)
  | _,_=>none
def lookR:List (Nat × Nat)->Nat->Nat
 | [],j=>j
 | (a,b) :: l,j=>if j=a then b else lookR l j
def headIds (A:Ann) (a:A.α):List Nat:=A.mids ++ ((A.blks a).map (·.1) ++ (A.owns a).map (·.id))
def envSame (e e':Nat->S):List Nat->Prop
 | []=>True
 | j :: l=>e j=e' j/\envSame e e' l
def envSets (e:Nat->S) (ρ:Nat->Nat):List (Nat × S)->Prop
 | []=>True
 | (j,v) :: l=>e j=v.ren ρ/\envSets e ρ l
def memSame (st st':St):List Nat->Prop
 | []=>True
 | j :: l=>((st.mem j).isSome=true/\st'.mem j=st.mem j/\st'.sp j=st.sp j/\st'.fr j=st.fr j)/\memSame st st' l
def memBlks (st:St) (ρ:Nat->Nat):List (Nat × Res)->Prop
 | []=>True
 | (j,r) :: l=>(st.mem j=some (r.ren ρ)/\st.sp j=false/\st.fr j=false/\match r with
   | .blk _=>True
   | .vec _ _=>True
   | .bld _ _=>True
   | _=>False)/\memBlks st ρ l
def slAt (t:Ty) (st:St) (src:Src):List t.den :=
 match srcId st src with
 | some id=>match st.mem id with
  | some (.sl _ t' xs)=>match castL t t' xs with
   | some ys=>ys
   | none=>[]
  | _=>[]
 | none=>[]
def memOwns (st:St) (ρ:Nat->Nat):List Own->Prop
 | []=>True
 | o :: l=>(st.sp (ρ o.id)=false/\st.fr (ρ o.id)=false/\match st.mem (ρ o.id) with
   | some (.sl _ t xs)=>castL o.t t xs=some o.xs
   | _=>False)/\memOwns st ρ l
def famsOf (st:St):List Nat->List Nat
 | []=>[]
 | j :: l=>match st.mem j with
  | some (.sl f _ _)=>f :: famsOf st l
  | _=>famsOf st l
def notIn (x:Nat):List Nat->Prop
 | []=>True
 | y :: l=>x ≠ y/\notIn x l
def allDiff:List Nat->Prop
 | []=>True
 | x :: l=>notIn x l/\allDiff l
def allIn (ids:List Nat):List Nat->Prop
 | []=>True
 | x :: l=>x ∈ ids/\allIn ids l
def closedE (e:Nat->S) (ids:List Nat):List Nat->Prop
 | []=>True
 | j :: l=>allIn ids (e j).refs/\closedE e ids l
def closedV (ids:List Nat):List (Nat × S)->Prop
 | []=>True
 | (_,v) :: l=>allIn ids v.refs/\closedV ids l
def closedM (m:Nat->Option Res) (ids:List Nat):List Nat->Prop
 | []=>True
 | j :: l=>(match m j with
   | some r=>allIn ids r.refs
   | none=>True)/\closedM m ids l
def closedR (ids:List Nat):List (Nat × Res)->Prop
 | []=>True
 | (_,r) :: l=>allIn ids r.refs/\closedR ids l
def rdLe:Option Nat->Option Nat->Prop
 | none,none=>True
 | some n,some m=>n<=m/\m<=1099511627776
 | _,_=>False
def headC (live:List Nat) (sets:List (Nat × S)) (mids:List Nat) (blks:List (Nat × Res)) (owns:List Own) (base:Nat) (rd:Option Nat) (st:St):St where
 env:=puts (puts (keepE live st.env) (ownEnv owns)) sets
 mem:=adds (adds (keepM mids st.mem) blks) (ownRes owns)
 sp:=keepB mids st.sp
 fr:=keepB mids st.fr
 base:=base
 rd:=rd
def idsC (mids:List Nat) (blks:List (Nat × Res)) (owns:List Own):List Nat:=mids ++ (blks.map (·.1) ++ owns.map (·.id))
def fitsC (live:List Nat) (sets:List (Nat × S)) (mids:List Nat) (blks:List (Nat × Res)) (owns:List Own) (rd:Option Nat) (st st':St):Prop :=
 match renL st' owns with
 | none=>False
 | some m =>
  envSame st'.env st.env live/\envSets st'.env (lookR m) sets/\memSame st st' mids/\memBlks st' (lookR m) blks/\memOwns st' (lookR m) owns /\
  allDiff (idsC mids blks owns)/\allDiff ((idsC mids blks owns).map (lookR m))/\allDiff (famsOf st' ((idsC mids blks owns).map (lookR m))) /\
  closedE st.env (mids ++ blks.map (·.1)) live/\closedV (idsC mids blks owns) sets/\closedM st.mem (mids ++ blks.map (·.1)) mids/\closedR (idsC mids blks owns) blks /\
  rdLe st'.rd rd
def Ann.fits (A:Ann) (st st':St) (a:A.α):Prop :=
 match renL st' (A.owns a) with
 | none=>False
 | some m =>
  envSame st'.env st.env A.live/\envSets st'.env (lookR m) (A.sets a)/\memSame st st' A.mids/\memBlks st' (lookR m) (A.blks a)/\memOwns st' (lookR m) (A.owns a) /\
  allDiff (headIds A a)/\allDiff ((headIds A a).map (lookR m))/\allDiff (famsOf st' ((headIds A a).map (lookR m))) /\
  closedE st.env (A.mids ++ (A.blks a).map (·.1)) A.live/\closedV (headIds A a) (A.sets a)/\closedM st.mem (A.mids ++ (A.blks a).map (·.1)) A.mids/\closedR (headIds A a) (A.blks a) /\
  rdLe st'.rd (A.rd st.rd a)
inductive XK where
 | normal
 | exit (id:Nat)
 | ret
 deriving DecidableEq
def firstReg:Code->Nat
 | .region id _ _=>id
 | .seq a _=>firstReg a
 | .block _ c=>firstReg c
 | .loop c=>firstReg c
 | .cond _ a _=>firstReg a
 | .scope c=>firstReg c
 | _=>0
def seqK (f:St->Prop) (Q:XK->St->Prop):XK->St->Prop
 | .normal,st=>f st
 | .exit id,st=>Q (.exit id) st
 | .ret,st=>Q .ret st
def blockK (id:Nat) (Q:XK->St->Prop):XK->St->Prop
 | .normal,st=>Q .normal st
 | .exit id',st=>if id'=id then Q .normal st else Q (.exit id') st
 | .ret,st=>Q .ret st
def condK (yes no:Prop):S->Prop
 | .s (.c (.d (.val (.bool t))))=>vcIf t yes no
 | _=>False
def vcReg (tab:TypeId->Option TI) (K:FuncId->Option Con) (ops:Array Oper) (st:St) (k:St->Prop):List (List Nat)->Prop
 | []=>vcOps tab K ops ops.toList st k
 | l :: ls=>vcEach tab K ops st k (l :: ls)
def vcLoop (body:St->(XK->St->Prop)->Prop) (st:St) (Q:XK->St->Prop):Option Ann->Prop
 | none=>False
 | some ⟨α,ok,mu,i0,nx,live,sets,mids,blks,owns,rd,base⟩=>(ok (i0 st)/\fitsC live (sets (i0 st)) mids (blks (i0 st)) (owns (i0 st)) (rd st.rd (i0 st)) st st) /\
   ∀ a:α,ok a->body (headC live (sets a) mids (blks a) (owns a) base (rd st.rd a) st) (seqK (fun st'=>ok (nx a st')/\mu (nx a st') < mu a/\fitsC live (sets (nx a st')) mids (blks (nx a st')) (owns (nx a st')) (rd st.rd (nx a st')) st st') Q)
section
variable (tab:TypeId->Option TI) (K:FuncId->Option Con) (anns:Nat->Option Ann) (perm:Nat->List (List Nat))
def vc:Code->St->(XK->St->Prop)->Prop
 | .skip,st,Q=>Q .normal st
 | .region id ops _,st,Q=>vcReg tab K ops st (Q .normal) (perm id)
 | .seq a b,st,Q=>vc a st (seqK (fun st'=>vc b st' Q) Q)
 | .cond c a b,st,Q=>condK (vc a st Q) (vc b st Q) (ev st c)
 | .block id c,st,Q=>vc c st (blockK id Q)
 | .loop c,st,Q=>vcLoop (fun st' Q'=>vc c st' Q') st Q (anns (firstReg c))
 | .exit id,st,Q=>Q (.exit id) st
 | .ret,st,Q=>Q .ret st
 | _,_,_=>False
end
end Go.SE

namespace Go.SE
variable [Base]
open Go.RowKit
def flat (t:Ty) (xs:List t.den):List DC:=xs.flatMap t.cells
abbrev Seen (w:World) (b:Nat) (vs:Array Value):Prop:=∃ ty fz,w.heap[b]?=some (.cells vs ty fz)/\(Base.nz<=b->fz=(0,0))
theorem Seen.keep {w w':World} {b:Nat} {r:Array Value} (h:Seen w b r) (e:b < w.heap.size->w'.heap[b]?=w.heap[b]?):Seen w' b r:=by
 obtain ⟨ty,fz,hh,hq⟩:=h
 exact ⟨ty,fz,by rw [e (Array.getElem?_eq_some_iff.1 hh).1];exact hh,hq⟩
theorem Seen.lt {w:World} {b:Nat} {r:Array Value} (h:Seen w b r):b < w.heap.size:=by
 obtain ⟨ty,fz,hh,hq⟩:=h
 exact (Array.getElem?_eq_some_iff.1 hh).1
def kindV:Value->Nat
 | .int .i64 _=>1
 | .bool _=>2
 | .slice _ _ _=>3
 | _=>0
def cmdK (i:Nat):Nat:=[1,1,1,2,1,1,3,3,3,3].getD i 0
def KO (vs:Array Value):Prop:=∀ i u,vs[i]?=some u->kindV u=cmdK (i % 10)
def PmOk (t:Ty) (b off cap:Nat) (vs:Array Value):Prop:=Base.n0<=b/\(t=.cmd->off % 10=0/\KO vs/\off+cap * 10<=vs.size)
theorem PmOk.shift {t:Ty} {b off cap:Nat} {vs:Array Value} (h:PmOk t b off cap vs) (k:Nat) (hk:k<=cap):PmOk t b (off+k * t.sz) (cap - k) vs :=
 ⟨h.1,fun ht=>⟨by have:=(h.2 ht).1;subst ht;show (off+k * 10) % 10=0;omega,(h.2 ht).2.1,by have:=(h.2 ht).2.2;subst ht;show off+k * 10+(cap - k) * 10<=vs.size;omega⟩⟩
theorem PmOk.less {t:Ty} {b off cap:Nat} {vs:Array Value} (h:PmOk t b off cap vs) (k:Nat):PmOk t b off (cap - k) vs :=
 ⟨h.1,fun ht=>⟨(h.2 ht).1,(h.2 ht).2.1,by have:=(h.2 ht).2.2;omega⟩⟩
inductive DR (ro:Nat->Option (Array Value)):DC->Value->Prop
 | val (x:Value) (h:x.oneCell'=true):DR ro (.val x) x
 | nil (t:Ty):DR ro (.arr t []) (.slice none 0 0)
 | emp (t:Ty) (a:Addr):DR ro (.arr t []) (.slice (some a) 0 0)      -- an empty slice with no room,wherever it points
 | arr (t:Ty) (xs:List t.den) (b off cap:Nat) (vs:Array Value) (g:Nat->Value) (hb:ro b=some vs) (hpm:t.pm=true->PmOk t b off cap vs) (hl:xs.length<=cap) (hc:cap<=maxLen)
   (h1:∀ k c,(flat t xs)[k]?=some c->vs[off+k]?=some (g k)) (h2:∀ k c,(flat t xs)[k]?=some c->DR ro c (g k)) :
   DR ro (.arr t xs) (.slice (some ⟨b,off,none⟩) xs.length cap)
 | fix (t:Ty) (xs:List t.den) (v:Value) (h:DR ro (.arr t xs) v):DR ro (.fix t xs v) v
 | ne (t:Ty) (xs:List t.den) (v:Value) (h:DR ro (.arr t xs) v) (h0:xs=[]->∃ a,v=.slice a 0 0):DR ro (.ne t xs) v
def RowR (ro:Nat->Option (Array Value)) (ds:List DC) (vs:Array Value) (o:Nat):Prop :=
 ∀ k c,ds[k]?=some c->∃ u,vs[o+k]?=some u/\DR ro c u
theorem DR.one {ro:Nat->Option (Array Value)} {c:DC} {v:Value} (h:DR ro c v):v.oneCell'=true:=by
 cases h with
 | val x h=>exact h
 | nil t=>rfl
 | emp t a=>rfl
 | arr=>rfl
 | fix t xs v h=>cases h <;> rfl
 | ne t xs v h=>cases h <;> rfl
theorem DR.mono {ro ro':Nat->Option (Array Value)} (hr:∀ b vs,ro b=some vs->ro' b=some vs) {c:DC} {v:Value} (h:DR ro c v):DR ro' c v:=by
 induction h with
 | val x h=>exact .val x h
 | nil t=>exact .nil t
 | emp t a=>exact .emp t a
 | arr t xs b off cap vs g hb hpm hl hc h1 h2 ih=>exact .arr t xs b off cap vs g (hr b vs hb) hpm hl hc h1 ih
 | fix t xs v h ih=>exact .fix t xs v ih
 | ne t xs v h h0 ih=>exact .ne t xs v ih h0
theorem RowR.mono {ro ro':Nat->Option (Array Value)} (hr:∀ b vs,ro b=some vs->ro' b=some vs) {ds:List DC} {vs:Array Value} {o:Nat} (h:RowR ro ds vs o):RowR ro' ds vs o :=
 fun k c hk=>let ⟨u,hu,hd⟩:=h k c hk;⟨u,hu,hd.mono hr⟩
theorem RowR.choose {ro:Nat->Option (Array Value)} {ds:List DC} {vs:Array Value} {o:Nat} (h:RowR ro ds vs o) :
  (∀ k c,ds[k]?=some c->vs[o+k]?=some (vs[o+k]?.getD undef))/\(∀ k c,ds[k]?=some c->DR ro c (vs[o+k]?.getD undef)):=by
 constructor
 ·intro k c hk
  obtain ⟨u,hu,_⟩:=h k c hk
  simp [hu]
 ·intro k c hk
  obtain ⟨u,hu,hd⟩:=h k c hk
  simpa [hu] using hd
theorem DR.of_row {ro:Nat->Option (Array Value)} {t:Ty} {xs:List t.den} {b off cap:Nat} {vs:Array Value} (hb:ro b=some vs) (hpm:t.pm=true->PmOk t b off cap vs) (hl:xs.length<=cap) (hc:cap<=maxLen) (h:RowR ro (flat t xs) vs off) :
  DR ro (.arr t xs) (.slice (some ⟨b,off,none⟩) xs.length cap) :=
 .arr t xs b off cap vs _ hb hpm hl hc h.choose.1 h.choose.2
theorem DR.arr_inv {ro:Nat->Option (Array Value)} {t:Ty} {xs:List t.den} {v:Value} (h:DR ro (.arr t xs) v) :
  ((∃ a,v=.slice a 0 0)/\xs=[]) ∨ ∃ b off cap vs,v=.slice (some ⟨b,off,none⟩) xs.length cap/\ro b=some vs/\xs.length<=cap/\cap<=maxLen/\RowR ro (flat t xs) vs off/\(t.pm=true->PmOk t b off cap vs):=by
 cases h with
 | nil t=>exact .inl ⟨⟨_,rfl⟩,rfl⟩
 | emp t a=>exact .inl ⟨⟨_,rfl⟩,rfl⟩
 | arr t xs b off cap vs g hb hpm hl hc h1 h2=>exact .inr ⟨b,off,cap,vs,rfl,hb,hl,hc,fun k c hk=>⟨g k,h1 k c hk,h2 k c hk⟩,hpm⟩
theorem DR.unfix {ro:Nat->Option (Array Value)} {t:Ty} {xs:List t.den} {u v:Value} (h:DR ro (.fix t xs u) v):DR ro (.arr t xs) v:=by
 generalize hc:DC.fix t xs u=c at h
 cases h with
 | val=>cases hc
 | nil=>cases hc
 | emp=>cases hc
 | arr=>cases hc
 | ne=>cases hc
 | fix t' xs' v' h'=>cases hc;exact h'
theorem DR.unne {ro:Nat->Option (Array Value)} {t:Ty} {xs:List t.den} {v:Value} (h:DR ro (.ne t xs) v):DR ro (.arr t xs) v:=by
 generalize hd:DC.ne t xs=d at h
 cases h with
 | ne t' xs' v' h h0=>cases hd;exact h
 | val=>cases hd
 | nil=>cases hd
 | emp=>cases hd
 | arr=>cases hd
 | fix=>cases hd
theorem DR.ne_no {ro:Nat->Option (Array Value)} {t:Ty} {v:Value} (h:DR ro (.ne t []) v):∃ a,v=.slice a 0 0:=by
 generalize hd:DC.ne t []=d at h
 cases h with
 | ne t' xs' v' h h0=>cases hd;exact h0 rfl
 | val=>cases hd
 | nil=>cases hd
 | emp=>cases hd
 | arr=>cases hd
 | fix=>cases hd
theorem DR.wk {ro:Nat->Option (Array Value)} {t:Ty} {c:DC} {v:Value} (h:DR ro c v):DR ro (wkDC t c) v:=by
 unfold wkDC
 split
 ·split
  ·exact h
  ·exact h.unne
 ·exact h
theorem DR.ofOwn {ro:Nat->Option (Array Value)} {t:Ty} {xs:List t.den} {v:Value} (h:DR ro (ownDC t xs) v):DR ro (.arr t xs) v:=by
 cases t
 case cmd=>exact DR.unne h
 all_goals exact h
theorem DR.own {ro:Nat->Option (Array Value)} {t:Ty} {xs:List t.den} {v:Value} (h:DR ro (.arr t xs) v) (h0:t=.cmd->xs=[]->∃ a,v=.slice a 0 0):DR ro (ownDC t xs) v:=by
 cases t
 case cmd=>exact .ne _ _ _ h (h0 rfl)
 all_goals exact h
theorem cells_len (t:Ty) (x:t.den):(t.cells x).length=t.sz:=by
 cases t <;> rfl
theorem flat_len (t:Ty) (xs:List t.den):(flat t xs).length=xs.length * t.sz:=by
 induction xs with
 | nil=>simp [flat]
 | cons x xs ih =>
  simp only [flat,List.flatMap_cons,List.length_append,List.length_cons] at ih ⊢
  rw [ih,cells_len,Nat.add_mul]
  omega
theorem sz_pos (t:Ty):0 < t.sz:=by cases t <;> decide
theorem flat_append (t:Ty) (xs ys:List t.den):flat t (xs ++ ys)=flat t xs ++ flat t ys:=by simp [flat]
theorem flat_cons (t:Ty) (x:t.den) (xs:List t.den):flat t (x :: xs)=t.cells x ++ flat t xs:=by simp [flat]
theorem flat_get (t:Ty) (xs:List t.den) (k off:Nat) (hk:k < xs.length) (ho:off < t.sz) :
  (flat t xs)[k * t.sz+off]?=(t.cells (xs.getD k t.zero))[off]?:=by
 induction xs generalizing k with
 | nil=>simp at hk
 | cons x xs ih =>
  rw [flat_cons]
  cases k with
  | zero =>
   rw [Nat.zero_mul,Nat.zero_add,List.getElem?_append_left (by rw [cells_len];exact ho)]
   simp
  | succ k =>
   rw [List.getElem?_append_right (by rw [cells_len,Nat.add_mul];omega)]
   have e:(k+1) * t.sz+off - (t.cells x).length=k * t.sz+off:=by rw [cells_len,Nat.add_mul];omega
   rw [e,ih k (by simpa using hk)]
   simp
theorem RowR.left {ro:Nat->Option (Array Value)} {ds es:List DC} {vs:Array Value} {o:Nat} (h:RowR ro (ds ++ es) vs o):RowR ro ds vs o:=by
 intro k c hk
 have hlt:k < ds.length:=(List.getElem?_eq_some_iff.1 hk).1
 exact h k c (by rw [List.getElem?_append_left hlt];exact hk)
theorem RowR.right {ro:Nat->Option (Array Value)} {ds es:List DC} {vs:Array Value} {o:Nat} (h:RowR ro (ds ++ es) vs o):RowR ro es vs (o+ds.length):=by
 intro k c hk
 have:=h (ds.length+k) c (by rw [List.getElem?_append_right (by omega)];simpa using hk)
 simpa [Nat.add_assoc] using this
theorem RowR.append {ro:Nat->Option (Array Value)} {ds es:List DC} {vs:Array Value} {o:Nat} (h1:RowR ro ds vs o) (h2:RowR ro es vs (o+ds.length)):RowR ro (ds ++ es) vs o:=by
 intro k c hk
 by_cases hlt:k < ds.length
 ·rw [List.getElem?_append_left hlt] at hk
  exact h1 k c hk
 ·rw [List.getElem?_append_right (by omega)] at hk
  have:=h2 _ c hk
  rw [show o+ds.length+(k - ds.length)=o+k from by omega] at this
  exact this
theorem RowR.nil {ro:Nat->Option (Array Value)} {vs:Array Value} {o:Nat}:RowR ro [] vs o:=by
 intro k c hk
 simp at hk
def kindD:DC->Nat
 | .val x=>kindV x
 | _=>3
theorem DR.kind {ro:Nat->Option (Array Value)} {c:DC} {u:Value} (h:DR ro c u):kindV u=kindD c:=by
 cases h with
 | val x h=>rfl
 | nil t=>rfl
 | emp t a=>rfl
 | arr=>rfl
 | fix t xs v h=>cases h <;> rfl
 | ne t xs v h=>cases h <;> rfl
theorem cmd_kind (x:GCmd) {j:Nat} {c:DC} (h:(Ty.cells .cmd x)[j]?=some c):kindD c=cmdK j:=by
 have hj:j < 10:=(List.getElem?_eq_some_iff.1 h).1
 match j,hj with
 | 0,_=>cases h;rfl
 | 1,_=>cases h;rfl
 | 2,_=>cases h;rfl
 | 3,_=>cases h;rfl
 | 4,_=>cases h;rfl
 | 5,_=>cases h;rfl
 | 6,_=>cases h;rfl
 | 7,_=>cases h;rfl
 | 8,_=>cases h;rfl
 | 9,_=>cases h;rfl
theorem flat_kind (xs:List GCmd) {k:Nat} {c:DC} (h:(flat .cmd xs)[k]?=some c):kindD c=cmdK (k % 10):=by
 have hl:k < xs.length * 10:=by have:=(List.getElem?_eq_some_iff.1 h).1;rwa [flat_len] at this
 have h1:=flat_get .cmd xs (k / 10) (k % 10) (by omega) (by show k % 10 < 10;omega)
 rw [show k / 10 * Ty.sz .cmd+k % 10=k from by show k / 10 * 10+k % 10=k;omega,h] at h1
 exact cmd_kind _ h1.symm
theorem KO.row {ro:Nat->Option (Array Value)} {t:Ty} {xs:List t.den} {cur:Array Value} (ht:t=.cmd) (h:RowR ro (flat t xs) cur 0) (hr:∀ i u,xs.length * t.sz<=i->cur[i]?=some u->kindV u=cmdK (i % 10)):KO cur:=by
 subst ht
 intro i u hu
 by_cases hi:i < xs.length * Ty.sz .cmd
 ·have hlt:i < (flat .cmd xs).length:=by rw [flat_len];exact hi
  obtain ⟨u',h1,h2⟩:=h i _ (List.getElem?_eq_getElem hlt)
  rw [Nat.zero_add,hu] at h1
  injection h1 with h1
  subst h1
  rw [h2.kind]
  exact flat_kind xs (List.getElem?_eq_getElem hlt)
 ·exact hr i u (by omega) hu
theorem zero_kind {z:Value} (h:z.cells.toList=Ty.zvals .cmd) {i:Nat} {u:Value} (hu:z.cells[i]?=some u):kindV u=cmdK i:=by
 have h1:(Ty.zvals .cmd)[i]?=some u:=by rw [← h,Array.getElem?_toList];exact hu
 have hj:i < 10:=by have:=(List.getElem?_eq_some_iff.1 h1).1;have e:(Ty.zvals .cmd).length=10:=rfl;omega
 match i,hj with
 | 0,_=>cases h1;rfl
 | 1,_=>cases h1;rfl
 | 2,_=>cases h1;rfl
 | 3,_=>cases h1;rfl
 | 4,_=>cases h1;rfl
 | 5,_=>cases h1;rfl
 | 6,_=>cases h1;rfl
 | 7,_=>cases h1;rfl
 | 8,_=>cases h1;rfl
 | 9,_=>cases h1;rfl
theorem zeroCells_get {z:Array Value} {n i:Nat} {u:Value} (h:(Builtin.zeroCells z n)[i]?=some u):z[i % z.size]?=some u:=by
 have hlt:i < n * z.size:=by have:=(Array.getElem?_eq_some_iff.1 h).1;simpa [Builtin.zeroCells] using this
 have hz:0 < z.size:=by
  rcases Nat.eq_zero_or_pos z.size with h0 | h0
  ·rw [h0,Nat.mul_zero] at hlt;omega
  ·exact h0
 have hm:i % z.size < z.size:=Nat.mod_lt _ hz
 simp only [Builtin.zeroCells,Array.getElem?_map] at h
 rw [Array.getElem?_eq_getElem (by simpa using hlt)] at h
 simp only [Option.map_some,Array.getElem_range] at h
 injection h with h
 rw [Array.getElem?_eq_getElem hm,← h,getElem!_pos z (i % z.size) hm]
theorem KO.grow {ro:Nat->Option (Array Value)} {t:Ty} {xs:List t.den} {vs:List Value} {z:Value} {n:Nat} (ht:t=.cmd) (hz:z.cells.toList=t.zvals) (hl:vs.length=xs.length * t.sz) (h:RowR ro (flat t xs) (vs.toArray ++ Builtin.zeroCells z.cells n) 0):KO (vs.toArray ++ Builtin.zeroCells z.cells n):=by
 refine KO.row ht h fun i u hi hu=>?_
 subst ht
 have hl:vs.length=xs.length * 10:=hl
 have hi:xs.length * 10<=i:=hi
 rw [Array.getElem?_append_right (by simp;omega)] at hu
 simp only [List.size_toArray] at hu
 have h1:=zero_kind hz (zeroCells_get hu)
 have h2:z.cells.size=10:=by rw [← Array.length_toList,hz];rfl
 rw [h1,h2,hl]
 congr 1
 omega
structure G where
 ro:Nat->Option (Array Value)
 κ:Nat->Value
 ln:Nat->Nat
 ρ:Nat
def blkOf:Value->Option Nat
 | .pointer (some a)=>some a.block
 | .slice (some a) _ _=>some a.block
 | _=>none
def CV.R (g:G):CV->Value->Prop
 | .d x,v=>DR g.ro x v
 | .nil,v=>v=.slice none 0 0
 | .own id,v=>v=g.κ id/\v.oneCell'=true
 | .ptr id off,v=>∃ b,g.κ id=.pointer (some ⟨b,0,none⟩)/\v=.pointer (some ⟨b,off,none⟩)
 | .vp id t k off,v=>∃ b,blkOf (g.κ id)=some b/\0<=k/\k.toNat < g.ln id/\v=.pointer (some ⟨b,k.toNat * t.sz+off,none⟩)
 | .rp t xs k off,v=>∃ b o vs,g.ro b=some vs/\0<=k/\k.toNat < xs.length/\RowR g.ro (flat t xs) vs o/\v=.pointer (some ⟨b,o+k.toNat * t.sz+off,none⟩)
 | .rv t xs,v=>∃ b vs,g.ro b=some vs/\vs.size=xs.length * t.sz/\RowR g.ro (flat t xs) vs 0/\v=.pointer (some ⟨b,0,none⟩)
 | .rdr,v=>v=.pointer (some ⟨g.ρ,0,none⟩)
 | .fn f ids,v=>v=.func (.func f) #[] (ids.map g.κ).toArray
 | .junk,_=>True
def Cells (g:G) (cs:List CV) (vs:Array Value):Prop :=
 vs.size=cs.length/\∀ (j:Nat) (c:CV),cs[j]?=some c->∃ u,vs[j]?=some u/\c.R g u
def S0.R (g:G):S0->Value->Prop
 | .c x,v=>x.R g v
 | .agg cs,v=>∃ vs,v=.agg vs/\Cells g cs vs
 | .vec t xs,v=>∃ vs,v=.agg vs/\vs.size=xs.length * t.sz/\RowR g.ro (flat t xs) vs 0
def S.R (g:G):S->Value->Prop
 | .s x,v=>x.R g v
 | .tup l,v=>∃ vs,v=.tuple vs/\vs.size=l.length/\∀ (j:Nat) (s:S0),l[j]?=some s->∃ u,vs[j]?=some u/\s.R g u
structure CapOk (t:Ty) (n cap:Nat) (cur:Array Value):Prop where
 le:cap<=maxLen
 tight:t=.cmd->n=0->cap=0
 ko:t=.cmd->KO cur
def Res.live:Res->Prop
 | .dead=>False
 | _=>True
section
variable (E:Ty->TypeId)
def ResR (w:World) (g:G) (id:Nat):Res->Prop
 | .blk cs=>∃ b vs ty,g.κ id=.pointer (some ⟨b,0,none⟩)/\w.heap[b]?=some (.cells vs ty (0,0))/\Cells g cs vs
 | .vec t xs=>g.ln id=xs.length/\∃ b vs ty,g.κ id=.pointer (some ⟨b,0,none⟩)/\w.heap[b]?=some (.cells vs ty (0,0))/\vs.size=xs.length * t.sz/\RowR g.ro (flat t xs) vs 0
 | .sl _ t xs=>g.ln id=xs.length/\((g.κ id=.slice none 0 0/\xs=[]) ∨
   ∃ b cap cur,g.κ id=.slice (some ⟨b,0,none⟩) xs.length cap/\w.heap[b]?=some (.cells cur (E t) (0,0))/\xs.length<=cap/\CapOk t xs.length cap cur/\cur.size=cap * t.sz/\RowR g.ro (flat t xs) cur 0)
 | .bld T k=>∃ b p,g.κ id=.pointer (some ⟨b,0,none⟩)/\w.heap[b]?=some (.cells #[p,g.κ k] T (0,0))/\(p=.pointer none ∨ p=.pointer (some ⟨b,0,none⟩))/\(g.κ k).oneCell'=true
 | .dead=>True
def rdLimit:Nat:=2 ^ 40
structure RdOk (w:World) (ro:Nat->Option (Array Value)) (ρ n:Nat):Prop where
 lim:n<=rdLimit/\Base.nz<=ρ
 out:ro ρ=none
 cells:∃ (code:List UInt8) (v:Value) (p:Int) (ty:TypeId),w.heap[ρ]?=some (.cells #[v,.int .i64 p] ty (0,0))/\DR ro (.arr .u8 code) v/\code.length<=2000/\0<=p/\p<=n
def RdSame (w0 w:World) (ρ:Nat):Prop :=
 ∀ v p ty,w0.heap[ρ]?=some (.cells #[v,.int .i64 p] ty (0,0))->∃ p' ty',w.heap[ρ]?=some (.cells #[v,.int .i64 p'] ty' (0,0))
theorem RdSame.next {w0 w w':World} {ρ:Nat} (h:RdSame w0 w ρ) (hw:ρ < w.heap.size->w'.heap[ρ]?=w.heap[ρ]?):RdSame w0 w' ρ:=by
 intro v p ty h0
 obtain ⟨p',ty',h1⟩:=h v p ty h0
 exact ⟨p',ty',by rw [hw (Array.getElem?_eq_some_iff.1 h1).1];exact h1⟩
structure Ext (M:Nat->Prop) (w0 w:World):Prop where
 os:w.os=w0.os
 tape:w.tape=w0.tape
 output:w.output=w0.output
 size:w0.heap.size<=w.heap.size
 block:∀ b,b < w0.heap.size->¬ M b->w.heap[b]?=w0.heap[b]?
theorem Ext.refl (M:Nat->Prop) (w:World):Ext M w w:=⟨rfl,rfl,rfl,Nat.le_refl _,fun _ _ _=>rfl⟩
theorem Ext.trans {M:Nat->Prop} {a b c:World} (h:Ext M a b) (k:Ext M b c):Ext M a c :=
 ⟨k.os.trans h.os,k.tape.trans h.tape,k.output.trans h.output,Nat.le_trans h.size k.size,fun i hi hm=>(k.block i (Nat.lt_of_lt_of_le hi h.size) hm).trans (h.block i hi hm)⟩
structure BaseIn (w:World):Prop where
 le:Base.n0<=w.heap.size
 gv:∀ b vs,Base.gs=some (b,vs)->Seen w b vs
theorem BaseIn.base {B1 B2:Base} {w:World} (h:@BaseIn B1 w) (hn:B2.n0<=w.heap.size) (hz:B2.nz=B1.nz) (hg:B2.gs=B1.gs):@BaseIn B2 w :=
 @BaseIn.mk B2 w hn fun b vs e=>by
  obtain ⟨ty,fz,h1,h2⟩:=@BaseIn.gv B1 w h b vs (hg ▸ e)
  exact ⟨ty,fz,h1,fun hb=>h2 (hz ▸ hb)⟩
theorem BaseIn.next {w w':World} (h:BaseIn w) (hs:w.heap.size<=w'.heap.size) (hb:∀ b,b < Base.nz->b < w.heap.size->w'.heap[b]?=w.heap[b]?):BaseIn w' :=
 ⟨Nat.le_trans h.le hs,fun b vs he=>(h.gv b vs he).keep fun hlt=>hb b (Base.gl b vs he) hlt⟩
theorem BaseIn.ext {M:Nat->Prop} {w w':World} (h:BaseIn w) (e:Ext M w w') (hM:∀ b,M b->Base.nz<=b):BaseIn w' :=
 h.next e.size fun b hb hlt=>e.block b hlt fun hm=>Nat.not_lt.2 (hM b hm) hb
structure MM where
 can:Nat->Prop
 ro:Nat->Option (Array Value)
 rho:Nat
 pin:Nat->Option Value:=fun _=>none
 pinl:Nat->Option Nat:=fun _=>none
 rok:Nat->Option (Array Value):=fun _=>none
instance:CoeFun MM fun _=>Nat->Prop:=⟨MM.can⟩
structure Good (w0:World) (M:MM) (g:G) (st:St) (w:World):Prop where
 ext:Ext M.can w0 w
 ro:∀ b vs,g.ro b=some vs->Seen w b vs
 res:∀ id r,st.mem id=some r->ResR E w g id r
 sep:∀ i j r s,st.mem i=some r->st.mem j=some s->i ≠ j->r.live->s.live->∀ b,blkOf (g.κ i)=some b->blkOf (g.κ j)=some b ->
  ∃ f t xs ys,r=.sl f t xs/\s=.sl f t ys/\(st.sp i=false->st.sp j=true/\ys.length<=xs.length)
 fresh:∀ id r,st.mem id=some r->r.live->∀ b,blkOf (g.κ id)=some b->w0.heap.size<=b ∨ M b
 wro:∀ id r,st.mem id=some r->r.live->∀ b,blkOf (g.κ id)=some b->(st.sp id=false->st.fr id=false->g.ro b=none)
 rd:∀ n,st.rd=some n->RdOk w g.ro g.ρ n/\(w0.heap.size<=g.ρ ∨ M g.ρ)/\∀ id r,st.mem id=some r->r.live->blkOf (g.κ id) ≠ some g.ρ
 rds:st.rd ≠ none->RdSame w0 w g.ρ
 roo:∀ b vs,g.ro b=some vs->M.ro b=some vs ∨ w0.heap.size<=b ∨ M.can b
 rho:g.ρ=M.rho/\BaseIn w0/\∀ b,M.can b->Base.n0<=b ∨ (b=M.rho/\st.rd ≠ none)
 pin:∀ id v,M.pin id=some v->(st.mem id).isSome=true/\g.κ id=v
 keep:(∀ id n,M.pinl id=some n->(st.mem id).isSome=true/\g.ln id=n)/\∀ b vs,M.rok b=some vs->g.ro b=some vs
def Cl (st:St):Prop :=
 (∀ x,∀ id ∈ (st.env x).refs,(st.mem id).isSome=true)/\(∀ j r,st.mem j=some r->∀ id ∈ r.refs,(st.mem id).isSome=true)
structure Rel (w0:World) (M:MM) (n:Nat) (st:St) (a:Act) (w:World):Prop where
 cl:Cl st
 size:a.tmps.size=n
 defers:a.defers=[]
 good:∃ g,Good E w0 M g st w/\∀ x,(st.env x).R g (a.tmps.getD x undef)
end
theorem Good.bin {E:Ty->TypeId} {w0:World} {M:MM} {g:G} {st:St} {w:World} (h:Good E w0 M g st w):BaseIn w:=by
 refine h.rho.2.1.ext h.ext fun b hb=>?_
 rcases h.rho.2.2 b hb with h1 | ⟨h1,h2⟩
 ·exact Nat.le_trans Base.le h1
 ·cases hr:st.rd with
  | none=>exact (h2 hr).elim
  | some n=>rw [h1,← h.rho.1];exact (h.rd n hr).1.lim.2
theorem Good.nb {E:Ty->TypeId} {w0:World} {M:MM} {g:G} {st:St} {w:World} (h:Good E w0 M g st w) {id:Nat} {r:Res} (hm:st.mem id=some r) (hl:r.live) {b:Nat} (hb:blkOf (g.κ id)=some b):Base.n0<=b:=by
 rcases h.fresh id r hm hl b hb with h1 | h1
 ·exact Nat.le_trans h.rho.2.1.le h1
 ·rcases h.rho.2.2 b h1 with h2 | ⟨h2,h3⟩
  ·exact h2
  ·cases hr:st.rd with
   | none=>exact (h3 hr).elim
   | some n=>exact ((h.rd n hr).2.2 id r hm hl (by rw [hb,h2,h.rho.1])).elim
theorem CV.R.mono {g g':G} (hro:∀ b vs,g.ro b=some vs->g'.ro b=some vs) (hρ:g'.ρ=g.ρ) {c:CV} (hk:∀ id ∈ c.refs,g'.κ id=g.κ id/\g'.ln id=g.ln id) {v:Value} (h:c.R g v):c.R g' v:=by
 cases c with
 | d x=>exact DR.mono hro h
 | nil=>exact h
 | own id=>have:=hk id (by simp [CV.refs]);exact ⟨by rw [this.1];exact h.1,h.2⟩
 | ptr id off=>have:=hk id (by simp [CV.refs]);obtain ⟨b,h1,h2⟩:=h;exact ⟨b,by rw [this.1];exact h1,h2⟩
 | vp id t k off=>have:=hk id (by simp [CV.refs]);obtain ⟨b,h1,h2,h3,h4⟩:=h;exact ⟨b,by rw [this.1];exact h1,h2,by rw [this.2];exact h3,h4⟩
 | rp t xs k off=>obtain ⟨b,o,vs,h1,h2,h3,h4,h5⟩:=h;exact ⟨b,o,vs,hro _ _ h1,h2,h3,h4.mono hro,h5⟩
 | rv t xs=>obtain ⟨b,vs,h1,h2,h3,h4⟩:=h;exact ⟨b,vs,hro _ _ h1,h2,h3.mono hro,h4⟩
 | rdr=>exact h.trans (by rw [hρ])
 | fn f ids =>
  have e:ids.map g'.κ=ids.map g.κ:=List.map_congr_left fun id hid=>(hk id (by simpa [CV.refs] using hid)).1
  show v=_
  rw [e]
  exact h
 | junk=>trivial
theorem mem_refsL {cs:List CV} {j:Nat} {c:CV} (h:cs[j]?=some c) {id:Nat} (hid:id ∈ c.refs):id ∈ refsL cs:=by
 induction cs generalizing j with
 | nil=>simp at h
 | cons x l ih =>
  cases j with
  | zero=>simp at h;subst h;simp [refsL,hid]
  | succ j=>simp only [refsL,List.mem_append];exact .inr (ih (by simpa using h))
theorem refsL_mem {cs:List CV} {id:Nat} (h:id ∈ refsL cs):∃ c ∈ cs,id ∈ c.refs:=by
 induction cs with
 | nil=>simp [refsL] at h
 | cons x l ih =>
  simp only [refsL,List.mem_append] at h
  rcases h with h | h
  ·exact ⟨x,by simp,h⟩
  ·obtain ⟨c,hc,hi⟩:=ih h
   exact ⟨c,by simp [hc],hi⟩
theorem mem_refsT {cs:List S0} {j:Nat} {c:S0} (h:cs[j]?=some c) {id:Nat} (hid:id ∈ c.refs):id ∈ refsT cs:=by
 induction cs generalizing j with
 | nil=>simp at h
 | cons x l ih =>
  cases j with
  | zero=>simp at h;subst h;simp [refsT,hid]
  | succ j=>simp only [refsT,List.mem_append];exact .inr (ih (by simpa using h))
theorem Cells.mono {g g':G} (hro:∀ b vs,g.ro b=some vs->g'.ro b=some vs) (hρ:g'.ρ=g.ρ) {cs:List CV} (hk:∀ id ∈ refsL cs,g'.κ id=g.κ id/\g'.ln id=g.ln id) {vs:Array Value} (h:Cells g cs vs):Cells g' cs vs :=
 ⟨h.1,fun j c hj=>let ⟨u,hu,hr⟩:=h.2 j c hj;⟨u,hu,hr.mono hro hρ fun id hid=>hk id (mem_refsL hj hid)⟩⟩
theorem S0.R.mono {g g':G} (hro:∀ b vs,g.ro b=some vs->g'.ro b=some vs) (hρ:g'.ρ=g.ρ) {s:S0} (hk:∀ id ∈ s.refs,g'.κ id=g.κ id/\g'.ln id=g.ln id) {v:Value} (h:s.R g v):s.R g' v:=by
 cases s with
 | c x=>exact CV.R.mono hro hρ hk h
 | agg cs=>obtain ⟨vs,h1,h2⟩:=h;exact ⟨vs,h1,h2.mono hro hρ hk⟩
 | vec t xs=>obtain ⟨vs,h1,h2,h3⟩:=h;exact ⟨vs,h1,h2,h3.mono hro⟩
theorem S.R.mono {g g':G} (hro:∀ b vs,g.ro b=some vs->g'.ro b=some vs) (hρ:g'.ρ=g.ρ) {s:S} (hk:∀ id ∈ s.refs,g'.κ id=g.κ id/\g'.ln id=g.ln id) {v:Value} (h:s.R g v):s.R g' v:=by
 cases s with
 | s x=>exact S0.R.mono hro hρ hk h
 | tup l =>
  obtain ⟨vs,h1,h2,h3⟩:=h
  exact ⟨vs,h1,h2,fun j s hj=>let ⟨u,hu,hr⟩:=h3 j s hj;⟨u,hu,hr.mono hro hρ fun id hid=>hk id (mem_refsT hj hid)⟩⟩
section
variable {E:Ty->TypeId}
theorem lt_of_some {w:World} {b:Nat} {o:Obj} (h:w.heap[b]?=some o):b < w.heap.size:=(Array.getElem?_eq_some_iff.1 h).1
theorem ResR.keep {w w':World} {g g':G} {id:Nat} {r:Res} (h:ResR E w g id r) (hw:∀ b,blkOf (g.κ id)=some b->w'.heap[b]?=w.heap[b]?)
  (hro:∀ b vs,g.ro b=some vs->g'.ro b=some vs) (hρ:g'.ρ=g.ρ) (hid:g'.κ id=g.κ id/\g'.ln id=g.ln id)
  (hk:∀ i ∈ r.refs,g'.κ i=g.κ i/\g'.ln i=g.ln i):ResR E w' g' id r:=by
 cases r with
 | blk cs =>
  obtain ⟨b,vs,ty,h1,h2,h3⟩:=h
  exact ⟨b,vs,ty,by rw [hid.1];exact h1,by rw [hw b (by simp [h1,blkOf])];exact h2,h3.mono hro hρ hk⟩
 | vec t xs =>
  obtain ⟨h0,b,vs,ty,h1,h2,h3,h4⟩:=h
  exact ⟨by rw [hid.2];exact h0,b,vs,ty,by rw [hid.1];exact h1,by rw [hw b (by simp [h1,blkOf])];exact h2,h3,h4.mono hro⟩
 | sl f t xs =>
  obtain ⟨h0,h⟩:=h
  refine ⟨by rw [hid.2];exact h0,?_⟩
  rcases h with ⟨h1,h2⟩ | ⟨b,cap,cur,h1,h2,h3,h4,h5,h6⟩
  ·exact .inl ⟨by rw [hid.1];exact h1,h2⟩
  ·exact .inr ⟨b,cap,cur,by rw [hid.1];exact h1,by rw [hw b (by simp [h1,blkOf])];exact h2,h3,h4,h5,h6.mono hro⟩
 | bld T k =>
  obtain ⟨b,p,h1,h2,h3,h4⟩:=h
  have e:g'.κ k=g.κ k:=(hk k (by simp [Res.refs])).1
  exact ⟨b,p,by rw [hid.1];exact h1,by rw [hw b (by simp [h1,blkOf]),e];exact h2,h3,by rw [e];exact h4⟩
 | dead=>trivial
theorem ResR.lt {w:World} {g:G} {id:Nat} {r:Res} (h:ResR E w g id r) (hl:r.live) {b:Nat} (hb:blkOf (g.κ id)=some b):b < w.heap.size:=by
 cases r with
 | blk cs=>obtain ⟨b',vs,ty,h1,h2,h3⟩:=h;simp [h1,blkOf] at hb;subst hb;exact lt_of_some h2
 | vec t xs=>obtain ⟨h0,b',vs,ty,h1,h2,h3,h4⟩:=h;simp [h1,blkOf] at hb;subst hb;exact lt_of_some h2
 | sl f t xs =>
  obtain ⟨h0,h⟩:=h
  rcases h with ⟨h1,h2⟩ | ⟨b',cap,cur,h1,h2,h3,h4,h5,h6⟩
  ·simp [h1,blkOf] at hb
  ·simp [h1,blkOf] at hb;subst hb;exact lt_of_some h2
 | bld T k=>obtain ⟨b',p,h1,h2,_⟩:=h;simp [h1,blkOf] at hb;subst hb;exact lt_of_some h2
 | dead=>exact hl.elim
theorem upd_same {α:Type} (f:Nat->α) (k:Nat) (v:α):upd f k v k=v:=by simp [upd]
theorem upd_ne {α:Type} (f:Nat->α) {k j:Nat} (v:α) (h:j ≠ k):upd f k v j=f j:=by simp [upd,h]
theorem adds_cases {m:Nat->Option Res} {l:List (Nat × Res)} {k:Nat} {r:Res} (h:adds m l k=some r):(k,r) ∈ l ∨ m k=some r:=by
 induction l generalizing m with
 | nil=>exact .inr h
 | cons p l ih =>
  obtain ⟨j,s⟩:=p
  rcases ih h with h' | h'
  ·exact .inl (by simp [h'])
  ·by_cases e:k=j
   ·subst e;rw [upd_same] at h';injection h' with h';subst h';exact .inl (by simp)
   ·rw [upd_ne _ _ e] at h';exact .inr h'
theorem adds_old {m:Nat->Option Res} {l:List (Nat × Res)} {k:Nat} (h:∀ p ∈ l,p.1 ≠ k):adds m l k=m k:=by
 induction l generalizing m with
 | nil=>rfl
 | cons p l ih =>
  obtain ⟨j,s⟩:=p
  have h1:j ≠ k:=h (j,s) (by simp)
  rw [adds,ih fun q hq=>h q (by simp [hq]),upd_ne _ _ (Ne.symm h1)]
theorem adds_isSome {m:Nat->Option Res} {l:List (Nat × Res)} {k:Nat} (h:(m k).isSome=true):(adds m l k).isSome=true:=by
 induction l generalizing m with
 | nil=>exact h
 | cons p l ih =>
  obtain ⟨j,s⟩:=p
  refine ih ?_
  by_cases e:k=j
  ·subst e;simp [upd_same]
  ·rw [upd_ne _ _ e];exact h
theorem adds_new {m:Nat->Option Res} {l:List (Nat × Res)} {k:Nat} {r:Res} (h:(k,r) ∈ l):(adds m l k).isSome=true:=by
 induction l generalizing m with
 | nil=>simp at h
 | cons p l ih =>
  obtain ⟨j,s⟩:=p
  rcases List.mem_cons.1 h with e | h'
  ·injection e with e1 e2
   subst e1
   rw [adds]
   exact adds_isSome (by rw [upd_same];rfl)
  ·exact ih h'
theorem Good.extend {w0:World} {M:MM} {g:G} {st:St} {w:World} (h:Good E w0 M g st w) (cl:Cl st) {w':World} {g':G} (l:List (Nat × Res))
  (hext:Ext M.can w0 w') (hw:∀ b,b < w.heap.size->w'.heap[b]?=w.heap[b]?)
  (hro:∀ b vs,g.ro b=some vs->g'.ro b=some vs) (hro':∀ b vs,g'.ro b=some vs->g.ro b=some vs ∨ (w.heap.size<=b/\Seen w' b vs))
  (hκ:∀ id,(st.mem id).isSome=true->g'.κ id=g.κ id/\g'.ln id=g.ln id) (hρ:g'.ρ=g.ρ)
  (hfree:∀ p ∈ l,st.mem p.1=none) (hres:∀ id r,(id,r) ∈ l->ResR E w' g' id r)
  (hnew:∀ id r,(id,r) ∈ l->r.live->∀ b,blkOf (g'.κ id)=some b->w.heap.size<=b/\g'.ro b=none)
  (hdist:∀ i r j s,(i,r) ∈ l->(j,s) ∈ l->i ≠ j->∀ b,blkOf (g'.κ i)=some b->blkOf (g'.κ j)=some b->False) :
  Good E w0 M g' { st with mem:=adds st.mem l } w':=by
 have old:∀ id r,st.mem id=some r->g'.κ id=g.κ id/\g'.ln id=g.ln id:=fun id r hm=>hκ id (by simp [hm])
 have hlt:∀ id r,st.mem id=some r->r.live->∀ b,blkOf (g.κ id)=some b->b < w.heap.size:=fun id r hm hl b hb=>(h.res id r hm).lt hl hb
 refine ⟨hext,?_,?_,?_,?_,?_,?_,fun hn=>by rw [hρ];exact (h.rds hn).next fun hb=>hw _ hb,
  fun b vs hb=>(hro' b vs hb).elim (h.roo b vs) fun h1=>.inr (.inl (Nat.le_trans h.ext.size h1.1)),⟨hρ.trans h.rho.1,h.rho.2⟩,fun id v hv=>⟨adds_isSome (h.pin id v hv).1,(hκ id (h.pin id v hv).1).1.trans (h.pin id v hv).2⟩,⟨fun id m hv=>⟨adds_isSome (h.keep.1 id m hv).1,(hκ id (h.keep.1 id m hv).1).2.trans (h.keep.1 id m hv).2⟩,fun b vs hv=>hro b vs (h.keep.2 b vs hv)⟩⟩
 ·intro b vs hb
  rcases hro' b vs hb with hb | ⟨_,hb⟩
  ·obtain ⟨ty,fz,hh,hq_⟩:=h.ro b vs hb
   exact ⟨ty,fz,by rw [hw b (lt_of_some hh)];exact hh,hq_⟩
  ·exact hb
 ·intro id r hm
  rcases adds_cases hm with hm | hm
  ·exact hres id r hm
  ·by_cases hl:r.live
   ·exact (h.res id r hm).keep (fun b hb=>hw b (hlt id r hm hl b hb)) hro hρ (old id r hm) fun i hi=>hκ i (cl.2 id r hm i hi)
   ·cases r with
    | dead=>trivial
    | _=>exact (hl trivial).elim
 ·intro i j r s hi hj hne hli hlj b hbi hbj
  rcases adds_cases hi with hi | hi <;> rcases adds_cases hj with hj | hj
  ·exact (hdist i r j s hi hj hne b hbi hbj).elim
  ·have h1:=(hnew i r hi hli b hbi).1
   rw [(old j s hj).1] at hbj
   have h2:=hlt j s hj hlj b hbj
   omega
  ·have h1:=(hnew j s hj hlj b hbj).1
   rw [(old i r hi).1] at hbi
   have h2:=hlt i r hi hli b hbi
   omega
  ·rw [(old i r hi).1] at hbi
   rw [(old j s hj).1] at hbj
   exact h.sep i j r s hi hj hne hli hlj b hbi hbj
 ·intro id r hm hl b hb
  rcases adds_cases hm with hm | hm
  ·left
   exact Nat.le_trans h.ext.size (hnew id r hm hl b hb).1
  ·rw [(old id r hm).1] at hb
   exact h.fresh id r hm hl b hb
 ·intro id r hm hl b hb h1 h2
  rcases adds_cases hm with hm | hm
  ·exact (hnew id r hm hl b hb).2
  ·rw [(old id r hm).1] at hb
   have hn:=h.wro id r hm hl b hb h1 h2
   cases hg:g'.ro b with
   | none=>rfl
   | some vs =>
    rcases hro' b vs hg with h3 | ⟨h3,_⟩
    ·rw [hn] at h3;cases h3
    ·have:=hlt id r hm hl b hb;omega
 ·intro n hn
  obtain ⟨⟨hlim,hout,code,v,p,ty,hc,hd,hrest⟩,hin,hno⟩:=h.rd n hn
  have hρlt:=lt_of_some hc
  refine ⟨⟨by rw [hρ];exact hlim,?_,code,v,p,ty,?_,hd.mono hro,hrest⟩,by rw [hρ];exact hin,?_⟩
  ·rw [hρ]
   cases hg:g'.ro g.ρ with
   | none=>rfl
   | some vs =>
    rcases hro' _ vs hg with h3 | ⟨h3,_⟩
    ·rw [hout] at h3;cases h3
    ·omega
  ·rw [hρ,hw _ hρlt];exact hc
  ·intro id r hm hl
   rw [hρ]
   rcases adds_cases hm with hm | hm
   ·intro hb
    have:=(hnew id r hm hl _ hb).1
    omega
   ·rw [(old id r hm).1]
    exact hno id r hm hl
end
end Go.SE

namespace Go.SE
variable [Base]
open Go.RowKit
def ckv:CK->Value
 | .sc z=>z
 | .sl _=>.slice none 0 0
def aggD:TypeDesc->Bool
 | .struct _=>true
 | .array _ _=>true
 | _=>false
def scD (z:Value) (d:TypeDesc):Prop :=
 match z with
 | .int k _=>d=.int k
 | .bool _=>d=.bool
 | .string _=>d=.string
 | _=>aggD d=false
def fieldOk (P:Program) (fields:Array Field) (f:Nat) (x:Nat × Nat × Bool):Prop :=
 ∃ fd i d,fields[f]?=some fd/\fd.offset=x.1/\P.info? fd.type=some i/\i.size=x.2.1/\P.underlying fd.type=some d/\aggD d=x.2.2
def fieldsOk (P:Program) (fields:Array Field):Nat->List (Nat × Nat × Bool)->Prop
 | _,[]=>True
 | f,x :: l=>fieldOk P fields f x/\fieldsOk P fields (f+1) l
def scT (z:Value) (d:Option TypeDesc):Prop :=
 match z with
 | .int _ _=>∃ k,d=some (.int k)
 | .bool _=>d=some .bool
 | _=>False
def eqFieldsOk (P:Program):Nat->List Field->List CK->Prop
 | _,[],[]=>True
 | j, fd :: fs, .sc z :: cks => (fd.name ≠ "_" /\ fd.offset = j /\ scT z (P.underlying fd.type)) /\ eqFieldsOk P (j + 1) fs cks
 | _,_,_=>False
def allSc:List CK->Bool
 | []=>true
 | .sc (.int _ _) :: l=>allSc l
 | .sc (.bool _) :: l=>allSc l
 | _=>false
def KOk (P:Program) (E:Ty->TypeId) (ty:TypeId) (i:TypeInfo) (d:TypeDesc) (sz:Nat):TK->Prop
 | .sc z=>sz=1/\i.zero=some z/\z.oneCell'=true/\scD z d
 | .sl rw e t=>sz=1/\(d=.slice e/\i.zero=some (.slice none 0 0))/\∃ ie,P.info? e=some ie/\ie.size=t.sz/\ie.bytes<=256/\(rw=true->e=E t/\∃ z,ie.zero=some z/\z.cells.toList=t.zvals)
 | .st cks fs=>∃ fields zc,d=.struct fields/\i.zero=some (.agg zc)/\zc.toList=cks.map ckv/\(sz=cks.length/\cks.length<=15/\∀ z,CK.sc z ∈ cks->z.oneCell'=true)/\fields.size=fs.length/\fieldsOk P fields 0 fs /\
   (allSc cks=true->P.eqGuardType P.depth ty=false/\P.stoodInHeld ty=false/\eqFieldsOk P 0 fields.toList cks)
 | .bld b=>b=ty/\aggD d=true/\i.zero=some (.agg #[.pointer none,.slice none 0 0])/\sz=2
 | .ar n e t=>d=.array n e/\sz=n * t.sz/\∃ ie zc,P.info? e=some ie/\ie.size=t.sz/\i.zero=some (.agg zc)/\zc.toList=(List.replicate n t.zvals).flatten/\∃ de,P.underlying e=some de/\(t.sz=1->aggD de=false)
def TIok (P:Program) (E:Ty->TypeId) (ty:TypeId) (ti:TI):Prop :=
 ∃ i d,P.info? ty=some i/\P.underlying ty=some d/\i.size=ti.sz/\KOk P E ty i d ti.sz ti.k
def TabOk (P:Program) (E:Ty->TypeId) (tab:TypeId->Option TI):Prop:=∀ ty ti,tab ty=some ti->TIok P E ty ti
theorem fieldsOk_get {P:Program} {fields:Array Field} {l:List (Nat × Nat × Bool)}:∀ {f:Nat},fieldsOk P fields f l->∀ {j:Nat} {x:Nat × Nat × Bool},l[j]?=some x->fieldOk P fields (f+j) x:=by
 induction l with
 | nil=>intro f _ j x h;simp at h
 | cons y l ih =>
  intro f h j x hj
  cases j with
  | zero=>simp at hj;subst hj;exact h.1
  | succ j =>
   have:=ih h.2 (j:=j) (x:=x) (by simpa using hj)
   rw [show f+1+j=f+(j+1) from by omega] at this
   exact this
section
variable {P:Program}
theorem run_isAgg {ty:TypeId} {d:TypeDesc} (h:P.underlying ty=some d) (w:World):(isAgg ty).run P w=.ok (aggD d) w:=by
 unfold isAgg
 rw [Sem.run_bind,run_underlying h w]
 cases d <;> rfl
theorem run_sizeOf {ty:TypeId} {i:TypeInfo} (h:P.info? ty=some i) (w:World):(sizeOf ty).run P w=.ok i.size w:=by
 simp [sizeOf,typeInfo,h]
theorem run_zeroValue {ty:TypeId} {i:TypeInfo} {z:Value} (h:P.info? ty=some i) (hz:i.zero=some z) (w:World):(zeroValue ty).run P w=.ok z w:=by
 simp [zeroValue,typeInfo,h,hz]
theorem cell_at {w:World} {b:Nat} {vs:Array Value} {ty:TypeId} {fz:Nat × Nat} (h:w.heap[b]?=some (.cells vs ty fz)) (o:Nat):w.cell? ⟨b,o,none⟩=vs[o]?:=by
 simp [World.cell?,h]
theorem run_loadAt_one {w:World} {b o:Nat} {vs:Array Value} {bt ty:TypeId} {fz:Nat × Nat} {d:TypeDesc} {u:Value} (h:w.heap[b]?=some (.cells vs bt fz)) (hu:vs[o]?=some u)
  (hd:P.underlying ty=some d) (ha:aggD d=false):(Instr.loadAt ty (.pointer (some ⟨b,o,none⟩))).run P w=.ok u w:=by
 have hc:=cell_at h o
 rw [hu] at hc
 simp [Instr.loadAt,Instr.sureAddr,loadVar,run_isAgg hd,ha,hc]
theorem extract_list (vs:Array Value) (o n:Nat):vs.extract o (o+n)=((vs.toList.drop o).take n).toArray:=by
 apply Array.ext'
 simp
theorem run_loadCells_at {w:World} {b o n:Nat} {vs:Array Value} {bt:TypeId} {fz:Nat × Nat} (h:w.heap[b]?=some (.cells vs bt fz)) (hn:o+n<=vs.size) :
  (loadCells ⟨b,o,none⟩ n).run P w=.ok (vs.extract o (o+n)) w:=by
 have hl:((vs.toList.drop o).take n).length=n:=by simp;omega
 have:=run_loadCells_list (P:=P) w ⟨b,o,none⟩ ((vs.toList.drop o).take n) (fun j v hj=>by
  rw [Addr.add_lit,cell_at h]
  rw [List.getElem?_take] at hj
  split at hj
  ·rw [List.getElem?_drop] at hj
   simpa using hj
  ·cases hj)
 rw [hl] at this
 rw [extract_list]
 exact this
theorem run_loadAt_agg {w:World} {b o:Nat} {vs:Array Value} {bt ty:TypeId} {fz:Nat × Nat} {d:TypeDesc} {i:TypeInfo} (h:w.heap[b]?=some (.cells vs bt fz))
  (hd:P.underlying ty=some d) (ha:aggD d=true) (hi:P.info? ty=some i) (hn:o+i.size<=vs.size) :
  (Instr.loadAt ty (.pointer (some ⟨b,o,none⟩))).run P w=.ok (.agg (vs.extract o (o+i.size))) w:=by
 simp [Instr.loadAt,Instr.sureAddr,loadVar,run_isAgg hd,ha,run_sizeOf hi,run_loadCells_at h hn]
def over (cur:Array Value) (o:Nat) (vs:List Value):Array Value:=(cur.toList.take o ++ vs ++ cur.toList.drop (o+vs.length)).toArray
theorem over_size {cur:Array Value} {o:Nat} {vs:List Value} (h:o+vs.length<=cur.size):(over cur o vs).size=cur.size:=by
 simp [over];omega
theorem over_get {cur:Array Value} {o:Nat} {vs:List Value} (h:o+vs.length<=cur.size) (j:Nat) :
  (over cur o vs)[j]?=if o<=j/\j < o+vs.length then vs[j - o]? else cur[j]?:=by
 simp only [over,List.getElem?_toArray]
 by_cases h1:j < o
 ·rw [if_neg (by omega),List.append_assoc,List.getElem?_append_left (by simp;omega),List.getElem?_take_of_lt h1]
  simp
 ·by_cases h2:j < o+vs.length
  ·rw [if_pos (by omega),List.getElem?_append_left (by simp;omega),List.getElem?_append_right (by simp;omega)]
   congr 1
   simp
   omega
  ·rw [if_neg (by omega),List.getElem?_append_right (by simp;omega),List.getElem?_drop]
   simp
   congr 1
   omega
theorem run_storeAt {w:World} {b o:Nat} {cur:Array Value} {bt ty:TypeId} {i:TypeInfo} {v:Value} (h:w.heap[b]?=some (.cells cur bt (0,0))) (hi:P.info? ty=some i)
  (hs:v.cells.size=i.size) (hn:o+i.size<=cur.size) (h1:∀ u ∈ v.cells.toList,u.oneCell'=true) :
  (Instr.storeAt ty (.pointer (some ⟨b,o,none⟩)) v).run P w=.ok () (w.setRow b (over cur o v.cells.toList)):=by
 have hst:=run_storeCells_at P b o bt v.cells.toList 0 cur w h (by simp;omega) h1
 simp only [Nat.add_zero] at hst
 simp [Instr.storeAt,Instr.sureAddr,storeVar,run_sizeOf hi,hs,hst,over]
theorem run_fieldAt {w:World} {s:TypeId} {fields:Array Field} {f:Nat} {fd:Field} {i:TypeInfo} {b o:Nat} (hs:P.underlying s=some (.struct fields)) (hf:fields[f]?=some fd)
  (hi:P.info? fd.type=some i) (hz:i.size ≠ 0):(Instr.fieldAt s (.pointer (some ⟨b,o,none⟩)) f).run P w=.ok (.pointer (some ⟨b,o+fd.offset,none⟩)) w:=by
 simp [Instr.fieldAt,run_underlying hs,hf,Instr.sureAddr,fieldPlace,run_sizeOf hi,hz,Addr.add_lit]
theorem run_indexAt_sl {w:World} {t e:TypeId} {i:TypeInfo} {b o len cap:Nat} {k:IntKind} {n:Int} (ht:P.underlying t=some (.slice e)) (hi:P.info? e=some i) (h0:0<=n) (h1:n < len) :
  (Instr.indexAt t (.slice (some ⟨b,o,none⟩) len cap) (.int k n)).run P w=.ok (.pointer (some ⟨b,o+n.toNat * i.size,none⟩)) w:=by
 simp [Instr.indexAt,asIntOf,run_underlying ht,h0,h1,run_sizeOf hi,Addr.add_lit]
theorem run_indexAt_ar {w:World} {t e:TypeId} {i:TypeInfo} {b o len:Nat} {k:IntKind} {n:Int} (ht:P.underlying t=some (.array len e)) (hi:P.info? e=some i) (h0:0<=n) (h1:n < len) :
  (Instr.indexAt t (.pointer (some ⟨b,o,none⟩)) (.int k n)).run P w=.ok (.pointer (some ⟨b,o+n.toNat * i.size,none⟩)) w:=by
 simp [Instr.indexAt,asIntOf,Instr.sureAddr,run_underlying ht,h0,h1,run_sizeOf hi,Addr.add_lit]
end
end Go.SE

namespace Go.SE
variable [Base]
open Go.RowKit
section
variable {P:Program} {E:Ty->TypeId}
def Sound (P:Program) (E:Ty->TypeId) (w0:World) (M:MM) (n:Nat) (o:Oper) (st:St) (a:Act) (w:World) (t:Tr):Prop :=
 ∀ (next:Act->World->Prop) (Q:Exit->Act->World->Prop),(∀ r a' w',t.post r->Rel E w0 M n (st.app o.dst t r) a' w'->next a' w')->o.wp P a w next Q
theorem put_get {a:Act} {dst:Option Nat} {v:Value} (hd:∀ d,dst=some d->d < a.tmps.size) (x:Nat) :
  (a.put dst v).tmps.getD x undef=if dst=some x then v else a.tmps.getD x undef:=by
 cases dst with
 | none=>simp [Act.put]
 | some d =>
  have h:=hd d rfl
  by_cases e:d=x
  ·subst e
   simp [Act.put,h]
  ·have:¬ (some d=some x):=fun h=>e (by injection h)
   rw [if_neg this]
   simp [Act.put,Array.getElem?_setIfInBounds_ne e]
theorem Rel.app {w0:World} {M:MM} {n:Nat} {st:St} {a:Act} {w:World} (h:Rel E w0 M n st a w) {dst:Option Nat} (hd:∀ d,dst=some d->d < n) {t:Tr} {r:t.R} {g g':G} {w':World} {v:Value}
  (henv:∀ x,(st.env x).R g (a.tmps.getD x undef)) (hro:∀ b vs,g.ro b=some vs->g'.ro b=some vs) (hρ:g'.ρ=g.ρ)
  (hκ:∀ id,(st.mem id).isSome=true->g'.κ id=g.κ id/\g'.ln id=g.ln id)
  (good:Good E w0 M g' (st.app dst t r) w') (hv:(t.val r).R g' v) (hdom:∀ id,(st.mem id).isSome=true->((st.app dst t r).mem id).isSome=true)
  (hval:∀ id ∈ (t.val r).refs,((st.app dst t r).mem id).isSome=true)
  (hmem:∀ j r',(st.app dst t r).mem j=some r'->∀ id ∈ r'.refs,((st.app dst t r).mem id).isSome=true) :
  Rel E w0 M n (st.app dst t r) (a.put dst v) w':=by
 have envEq:∀ x,(st.app dst t r).env x=if dst=some x then t.val r else st.env x:=by
  intro x
  cases dst with
  | none=>simp [St.app]
  | some d =>
   by_cases e:x=d
   ·subst e;simp [St.app,upd]
   ·have:¬ (some d=some x):=fun h=>e (by injection h with h;exact h.symm)
    rw [if_neg this]
    simp [St.app,upd,e]
 refine ⟨⟨?_,hmem⟩,?_,?_,g',good,?_⟩
 ·intro x id hid
  rw [envEq] at hid
  split at hid
  ·exact hval id hid
  ·exact hdom id (h.cl.1 x id hid)
 ·cases dst <;> simp [Act.put,h.size]
 ·cases dst <;> simp [Act.put,h.defers]
 ·intro x
  rw [put_get (by rw [h.size];exact hd),envEq]
  split
  ·exact hv
  ·exact (henv x).mono hro hρ fun id hid=>hκ id (h.cl.1 x id hid)
theorem constS_R (g:G) (v:Value):(constS v).R g v:=by
 unfold constS
 split
 ·rfl
 ·exact .val _ rfl
 ·exact .val _ rfl
 ·exact .val _ rfl
 ·trivial
theorem ev_R {g:G} {st:St} {a:Act} (henv:∀ x,(st.env x).R g (a.tmps.getD x undef)) (x:Operand):(ev st x).R g (a.eval x):=by
 cases x with
 | tmp t=>exact henv t
 | const v=>exact constS_R g v
 | global i=>trivial
 | func f=>simp [ev,Act.eval,S.R,S0.R,CV.R]
theorem ev_refs {st:St} (h:Cl st) (x:Operand):∀ id ∈ (ev st x).refs,(st.mem id).isSome=true:=by
 cases x with
 | tmp t=>exact h.1 t
 | const v =>
  intro id hid
  have:(constS v).refs=[]:=by unfold constS;split <;> rfl
  rw [ev,this] at hid
  simp at hid
 | global i=>intro id hid;simp [ev,junk,S.refs,S0.refs,CV.refs] at hid
 | func f=>intro id hid;simp [ev,S.refs,S0.refs,CV.refs] at hid
theorem rd_zero (o:Option Nat):o.map (·+0)=o:=by cases o <;> rfl
theorem app_one (st:St) (dst:Option Nat) (s:S) (pre:Prop) (news:List (Nat × Res)) (r:Unit) :
  st.app dst (Tr.one s pre news) r={ env:=(match dst with | some d=>upd st.env d s | none=>st.env),mem:=adds st.mem news,sp:=st.sp,fr:=st.fr,base:=st.base,rd:=st.rd }:=by
 cases dst <;> simp [St.app,sets,rd_zero]
theorem Good.env {w0:World} {M:MM} {g:G} {st:St} {w:World} (h:Good E w0 M g st w) {st':St} (hm:st'.mem=st.mem) (hs:st'.sp=st.sp) (hf:st'.fr=st.fr) (hr:st'.rd=st.rd):Good E w0 M g st' w :=
 ⟨h.ext,h.ro,by rw [hm];exact h.res,by rw [hm,hs];exact h.sep,by rw [hm];exact h.fresh,by rw [hm,hs,hf];exact h.wro,by rw [hr,hm];exact h.rd,by rw [hr];exact h.rds,h.roo,by rw [hr];exact h.rho,by rw [hm];exact h.pin,by rw [hm];exact h.keep⟩
theorem Sound.plain {w0:World} {M:MM} {n:Nat} {o:Oper} {st:St} {a:Act} {w:World} (h:Rel E w0 M n st a w) (hd:∀ d,o.dst=some d->d < n) {s:S} {pre:Prop}
  (hrefs:∀ id ∈ s.refs,(st.mem id).isSome=true) {v:Value} (hrun:(execOp a.eval o).run P w=.ok (.value v) w)
  (hv:∀ g,Good E w0 M g st w->(∀ x,(st.env x).R g (a.tmps.getD x undef))->s.R g v):Sound P E w0 M n o st a w (Tr.one s pre):=by
 intro next Q hn
 obtain ⟨g,hg,henv⟩:=h.good
 unfold Oper.wp
 rw [hrun,Oper.upon_value]
 refine hn () _ _ trivial ?_
 have e:=app_one st o.dst s pre [] ()
 refine Rel.app h hd henv (fun _ _ h=>h) rfl (fun _ _=>⟨rfl,rfl⟩) (g':=g) ?_ (hv g hg henv) ?_ ?_ ?_
 ·rw [e];exact hg.env rfl rfl rfl rfl
 ·rw [e];exact fun id hid=>hid
 ·rw [e];exact hrefs
 ·rw [e];exact h.cl.2
theorem Good.make {w0:World} {M:MM} {g:G} {st:St} {w:World} (h:Good E w0 M g st w) (cl:Cl st) {w':World} (bid:Nat) (vb:Value) (nb:Nat) (l:List (Nat × Res))
  (hext:Ext M.can w0 w') (hw:∀ b,b < w.heap.size->w'.heap[b]?=w.heap[b]?) (hfree:∀ p ∈ l,st.mem p.1=none)
  (hb:∀ b,blkOf vb=some b->w.heap.size<=b)
  (hl:∀ id r,(id,r) ∈ l->(id=bid/\ResR E w' { g with κ:=fun j=>if (st.mem j).isSome then g.κ j else if j=bid then vb else .slice none 0 0,ln:=fun j=>if (st.mem j).isSome then g.ln j else if j=bid then nb else 0 } id r) ∨
   (id ≠ bid/\∃ f t,r=.sl f t [])) :
  Good E w0 M { g with κ:=fun j=>if (st.mem j).isSome then g.κ j else if j=bid then vb else .slice none 0 0,ln:=fun j=>if (st.mem j).isSome then g.ln j else if j=bid then nb else 0 }
   { st with mem:=adds st.mem l } w':=by
 refine h.extend cl l hext hw (fun _ _ h=>h) (fun b vs hr=>.inl hr) ?_ rfl hfree ?_ ?_ ?_
 ·intro id hs
  simp [hs]
 ·intro id r hm
  rcases hl id r hm with ⟨_,h1⟩ | ⟨hid,f,t,rfl⟩
  ·exact h1
  ·have hf:=hfree _ hm
   simp only at hf
   refine ⟨?_,.inl ⟨?_,rfl⟩⟩ <;> simp [hid,hf]
 ·intro id r hm hlv b hbb
  rcases hl id r hm with ⟨rfl,h1⟩ | ⟨hid,f,t,rfl⟩
  ·have hf:=hfree _ hm
   simp only at hf
   simp [hf] at hbb
   have hb1:=hb b hbb
   refine ⟨hb1,?_⟩
   show g.ro b=none
   cases hr:g.ro b with
   | none=>rfl
   | some vs =>
    obtain ⟨ty,fz,hh,hq_⟩:=h.ro b vs hr
    have:=lt_of_some hh
    omega
  ·have hf:=hfree _ hm
   simp only at hf
   simp [hid,hf,blkOf] at hbb
 ·intro i r j s hi hj hij b hbi hbj
  rcases hl i r hi with ⟨rfl,h1⟩ | ⟨hid,f,t,rfl⟩
  ·rcases hl j s hj with ⟨rfl,_⟩ | ⟨hjd,f,t,rfl⟩
   ·exact hij rfl
   ·have hf:=hfree _ hj
    simp only at hf
    simp [hjd,hf,blkOf] at hbj
  ·have hf:=hfree _ hi
   simp only at hf
   simp [hid,hf,blkOf] at hbi
theorem Sound.make {w0:World} {M:MM} {n:Nat} {o:Oper} {st:St} {a:Act} {w w':World} (h:Rel E w0 M n st a w) (hd:∀ d,o.dst=some d->d < n) {s:S} {pre:Prop} {l:List (Nat × Res)}
  (bid:Nat) (vb:Value) (nb:Nat) {v:Value} (hrun:(execOp a.eval o).run P w=.ok (.value v) w')
  (hext:∀ M,Ext M w w') (hfree:∀ p ∈ l,st.mem p.1=none) (hb:∀ b,blkOf vb=some b->w.heap.size<=b)
  (hrefs:∀ id ∈ s.refs,(st.mem id).isSome=true ∨ ∃ r,(id,r) ∈ l) (hrefl:∀ k r,(k,r) ∈ l->∀ id ∈ r.refs,(st.mem id).isSome=true ∨ ∃ r,(id,r) ∈ l)
  (hR:∀ g,Good E w0 M g st w->(∀ x,(st.env x).R g (a.tmps.getD x undef))->∀ g',g'.ro=g.ro->g'.ρ=g.ρ->(∀ id,(st.mem id).isSome=true->g'.κ id=g.κ id/\g'.ln id=g.ln id) ->
   (st.mem bid=none->g'.κ bid=vb)->(st.mem bid=none->g'.ln bid=nb)->(∀ id,st.mem id=none->id ≠ bid->g'.κ id=.slice none 0 0/\g'.ln id=0) ->
   s.R g' v/\∀ id r,(id,r) ∈ l->(id=bid/\ResR E w' g' id r) ∨ (id ≠ bid/\∃ f t,r=.sl f t [])) :
  Sound P E w0 M n o st a w (Tr.one s pre l):=by
 intro next Q hn
 obtain ⟨g,hg,henv⟩:=h.good
 unfold Oper.wp
 rw [hrun,Oper.upon_value]
 refine hn () _ _ trivial ?_
 have e:=app_one st o.dst s pre l ()
 obtain ⟨hv,hl⟩:=hR g hg henv { g with κ:=fun j=>if (st.mem j).isSome then g.κ j else if j=bid then vb else .slice none 0 0,ln:=fun j=>if (st.mem j).isSome then g.ln j else if j=bid then nb else 0 }
  rfl rfl (fun id hs=>by simp [hs]) (fun hb=>by simp [hb]) (fun hb=>by simp [hb]) (fun id hm hid=>by simp [hm,hid])
 have hgood:=hg.make h.cl bid vb nb l (hg.ext.trans (hext M)) (fun b hb=>(hext (fun _=>False)).block b hb (fun h=>h)) hfree hb hl
 have dom:∀ id,((st.mem id).isSome=true ∨ ∃ r,(id,r) ∈ l)->(adds st.mem l id).isSome=true:=fun id hid=>by
  rcases hid with hid | ⟨r,hid⟩
  ·exact adds_isSome hid
  ·exact adds_new hid
 refine Rel.app h hd henv (g':={ g with κ:=fun j=>if (st.mem j).isSome then g.κ j else if j=bid then vb else .slice none 0 0,ln:=fun j=>if (st.mem j).isSome then g.ln j else if j=bid then nb else 0 }) (fun _ _ h=>h) rfl ?_ ?_ hv ?_ ?_ ?_
 ·intro id hs;simp [hs]
 ·rw [e];exact hgood.env rfl rfl rfl rfl
 ·rw [e];exact fun id hid=>adds_isSome hid
 ·rw [e];exact fun id hid=>dom id (hrefs id hid)
 ·rw [e]
  intro j r' hj id hid
  rcases adds_cases hj with hj | hj
  ·exact dom id (hrefl j r' hj id hid)
  ·exact adds_isSome (h.cl.2 j r' hj id hid)
end
end Go.SE

namespace Go.SE
variable [Base]
open Go.RowKit
section
variable {P:Program} {E:Ty->TypeId} {tab:TypeId->Option TI} {w0:World} {M:MM} {n:Nat} {o:Oper} {st:St} {a:Act} {w:World}
theorem R_val {g:G} {x v:Value} (h:S.R g (.s (.c (.d (.val x)))) v):v=x:=by
 cases h with
 | val=>rfl
theorem R_val_one {g:G} {x v:Value} (h:S.R g (.s (.c (.d (.val x)))) v):x.oneCell'=true:=by
 cases h with
 | val _ h=>exact h
theorem R_sv {g:G} {x:Value} (h:x.oneCell'=true):(sv x).R g x:=.val x h
theorem refs_sv (x:Value):(sv x).refs=[]:=rfl
theorem ev_val (h:Rel E w0 M n st a w) {x:Operand} {v:Value} (he:ev st x=.s (.c (.d (.val v)))):a.eval x=v/\v.oneCell'=true:=by
 obtain ⟨g,_,henv⟩:=h.good
 have:=ev_R henv x
 rw [he] at this
 exact ⟨R_val this,R_val_one this⟩
theorem snd_move (h:Rel E w0 M n st a w) (ht:TabOk P E tab) (hd:∀ d,o.dst=some d->d < n) {x:Operand} (ho:o.op=.move x ∨ o.op=.assign x) {t:Tr} (htr:trMove tab st o.type (o.dst.getD 0) x=some t) (hp:t.pre) :
  Sound P E w0 M n o st a w t:=by
 have hrun:(execOp a.eval o).run P w=.ok (.value (a.eval x)) w:=by
  rcases ho with ho | ho <;> simp [execOp,ho]
 unfold trMove at htr
 split at htr
 ·rename_i he
  split at htr
  ·rename_i q1 q2 q3 ty hti
   injection htr with htr
   subst htr
   have hfree:st.mem (moveId st (o.dst.getD 0))=none:=hp
   refine Sound.make h hd (moveId st (o.dst.getD 0)) (.slice none 0 0) 0 hrun (fun M=>Ext.refl M w) ?_ ?_ ?_ ?_ ?_
   ·intro p hpm;simp at hpm;subst hpm;exact hfree
   ·intro b hb;simp [blkOf] at hb
   ·intro id hid;simp [S.refs,S0.refs,CV.refs] at hid;subst hid;exact .inr ⟨_,List.mem_singleton.2 rfl⟩
   ·intro k r hk id hid;simp at hk;obtain ⟨_,rfl⟩:=hk;simp [Res.refs] at hid
   ·intro g hg henv g' e1 e2 e3 e4 e5 e6
    have hx:=ev_R henv x
    rw [he] at hx
    have hx:a.eval x=.slice none 0 0:=hx
    refine ⟨⟨by rw [hx,e4 hfree],by rw [hx];rfl⟩,?_⟩
    intro id r hm
    simp at hm
    obtain ⟨rfl,rfl⟩:=hm
    exact .inl ⟨rfl,e5 hfree,.inl ⟨e4 hfree,rfl⟩⟩
  ·cases htr
 ·injection htr with htr
  subst htr
  exact Sound.plain h hd (ev_refs h.cl x) hrun fun g hg henv=>ev_R henv x
theorem snd_pick (h:Rel E w0 M n st a w) (hd:∀ d,o.dst=some d->d < n) {c x y:Operand} (ho:o.op=.pick c x y) {t:Tr} (htr:trPick st c x y=some t):Sound P E w0 M n o st a w t:=by
 unfold trPick at htr
 split at htr
 ·rename_i he
  injection htr with htr
  subst htr
  refine Sound.plain h hd (ev_refs h.cl x) (v:=a.eval x) ?_ fun g hg henv=>ev_R henv x
  simp [execOp,ho,(ev_val h he).1,asBool]
 ·rename_i he
  injection htr with htr
  subst htr
  refine Sound.plain h hd (ev_refs h.cl y) (v:=a.eval y) ?_ fun g hg henv=>ev_R henv y
  simp [execOp,ho,(ev_val h he).1,asBool]
 ·cases htr
theorem snd_nilCheck (h:Rel E w0 M n st a w) (hd:∀ d,o.dst=some d->d < n) {x:Operand} (ho:o.op=.nilCheck x) {t:Tr} (htr:trNilCheck st x=some t):Sound P E w0 M n o st a w t:=by
 have key:∀ s,ev st x=s->(∃ b,a.eval x=.pointer (some b))->Sound P E w0 M n o st a w (Tr.one s):=by
  intro s hs hb
  obtain ⟨b,hb⟩:=hb
  subst hs
  refine Sound.plain h hd (ev_refs h.cl x) (v:=a.eval x) ?_ fun g hg henv=>ev_R henv x
  simp [execOp,ho,hb]
 obtain ⟨g,_,henv⟩:=h.good
 have hx:=ev_R henv x
 unfold trNilCheck at htr
 split at htr
 ·rename_i he;injection htr with htr;subst htr;refine key _ he ?_;rw [he] at hx;obtain ⟨b,_,hb⟩:=hx;exact ⟨_,hb⟩
 ·rename_i he;injection htr with htr;subst htr;refine key _ he ?_;rw [he] at hx;obtain ⟨b,_,_,_,hb⟩:=hx;exact ⟨_,hb⟩
 ·rename_i he;injection htr with htr;subst htr;refine key _ he ?_;rw [he] at hx;obtain ⟨b,_,_,_,_,_,_,hb⟩:=hx;exact ⟨_,hb⟩
 ·rename_i he;injection htr with htr;subst htr;refine key _ he ?_;rw [he] at hx;obtain ⟨b,_,_,_,_,hb⟩:=hx;exact ⟨_,hb⟩
 ·rename_i he;injection htr with htr;subst htr;refine key _ he ?_;rw [he] at hx;exact ⟨_,hx⟩
 ·cases htr
theorem wrap_in {k:IntKind} {n:Int} (h:inK k n):k.wrap n=n:=by
 obtain ⟨h1,h2⟩:=h
 cases k <;> simp [IntKind.min,IntKind.max,IntKind.signed,IntKind.bits] at h1 h2 <;> simp [IntKind.wrap,IntKind.signed,IntKind.bits,IntKind.max] <;> omega
theorem binI_run {op:BinOp} {k:IntKind} {x y:Int} {p:Prop} {v:Value} (hb:binI op k x y=some (p,v)) (hp:p) (ty:TypeId) (hs:isShift op=false) :
  (binOp op ty (.int k x) (.int k y)).run P w=.ok v w/\v.oneCell'=true:=by
 cases op <;> simp only [binI,Option.some.injEq,Prod.mk.injEq,reduceCtorEq] at hb <;> (try (obtain ⟨rfl,rfl⟩:=hb)) <;> (try (simp [isShift] at hs;done))
 case add=>simp [binOp_add,Op.intArith,wrap_in hp,Value.oneCell']
 case sub=>simp [binOp_sub,Op.intArith,wrap_in hp,Value.oneCell']
 case mul=>simp [binOp_mul,Op.intArith,wrap_in hp,Value.oneCell']
 case quo=>simp [binOp_quo,Op.intDiv,hp.1,wrap_in hp.2,Value.oneCell']
 case rem=>simp [binOp_rem,Op.intDiv,hp,Value.oneCell']
 case and=>simp [binOp_and,intBits_and,Value.oneCell']
 case or=>simp [binOp_or,intBits_or,Value.oneCell']
 case xor=>simp [binOp_xor,intBits_xor,Value.oneCell']
 case eql=>simp [binOp_eql,Value.oneCell']
 case neq=>simp [binOp_neq,Value.oneCell']
 case lss=>simp [binOp_lss,Value.oneCell']
 case leq=>simp [binOp_leq,Value.oneCell']
 case gtr=>simp [binOp_gtr,Value.oneCell']
 case geq=>simp [binOp_geq,Value.oneCell']
theorem shf_run {op:BinOp} {k k':IntKind} {x y:Int} {p:Prop} {v:Value} (hb:shf op k x y=some (p,v)) (hp:p) (ty:TypeId) :
  (binOp op ty (.int k x) (.int k' y)).run P w=.ok v w/\v.oneCell'=true:=by
 cases op <;> simp only [shf,Option.some.injEq,Prod.mk.injEq,reduceCtorEq] at hb <;> (try (obtain ⟨rfl,rfl⟩:=hb))
 case shl =>
  have h':¬ y < 0:=by omega
  simp [binOp_shl,Op.shift,h',Value.oneCell']
 case shr =>
  have h':¬ y < 0:=by omega
  simp [binOp_shr,Op.shift,h',Value.oneCell']
end
end Go.SE

namespace Go.SE
variable [Base]
open Go.RowKit
section
variable {P:Program} {E:Ty->TypeId} {tab:TypeId->Option TI} {w0:World} {M:MM} {n:Nat} {o:Oper} {st:St} {a:Act} {w:World}
theorem eqCells_inv {z:Value} {cks:List CK} {l r:List CV} {q:Bool} (h:eqCells (.sc z :: cks) l r=some q) :
  (∃ k0 m0 k x l' y r' q',z=.int k0 m0/\l=.d (.val (.int k x)) :: l'/\r=.d (.val (.int k y)) :: r'/\eqCells cks l' r'=some q'/\q=((x == y) && q')) ∨
  (∃ b x l' y r' q',z=.bool b/\l=.d (.val (.bool x)) :: l'/\r=.d (.val (.bool y)) :: r'/\eqCells cks l' r'=some q'/\q=((x == y) && q')):=by
 unfold eqCells at h
 split at h
 case h_1 e=>exact absurd e (by simp)
 case h_2 k0 m0 cks' k x l' k' y r' e =>
  injection e with e1 e2
  injection e1 with e1
  subst e2
  split at h
  ·rename_i hk
   subst hk
   cases hq:eqCells cks l' r' with
   | none=>rw [hq] at h;simp at h
   | some q' =>
    rw [hq] at h
    simp only [Option.map_some,Option.some.injEq] at h
    exact .inl ⟨k0,m0,k,x,l',y,r',q',e1,rfl,rfl,hq,h.symm⟩
  ·simp at h
 case h_3 b cks' x l' y r' e =>
  injection e with e1 e2
  injection e1 with e1
  subst e2
  cases hq:eqCells cks l' r' with
  | none=>rw [hq] at h;simp at h
  | some q' =>
   rw [hq] at h
   simp only [Option.map_some,Option.some.injEq] at h
   exact .inr ⟨b,x,l',y,r',q',e1,rfl,rfl,hq,h.symm⟩
 case h_4=>simp at h
theorem eqCells_run {g:G} (xs ys:Array Value) (d:Nat):∀ (fs:List Field) (cks:List CK) (j:Nat) (l r:List CV) (q:Bool),eqFieldsOk P j fs cks->eqCells cks l r=some q ->
  (∀ i c,l[i]?=some c->∃ u,xs[j+i]?=some u/\c.R g u)->(∀ i c,r[i]?=some c->∃ u,ys[j+i]?=some u/\c.R g u)->(Op.eqFields (d+1) xs ys fs).run P w=.ok q w:=by
 intro fs
 induction fs with
 | nil =>
  intro cks j l r q hf he _ _
  cases cks with
  | nil =>
   cases l with
   | nil =>
    cases r with
    | nil=>simp only [eqCells,Option.some.injEq] at he;subst he;simp [Op.eqFields]
    | cons _ _=>simp [eqCells] at he
   | cons _ _=>simp [eqCells] at he
  | cons c cks=>cases c <;> simp [eqFieldsOk] at hf
 | cons fd fs ih =>
  intro cks j l r q hf he hl hr
  cases cks with
  | nil=>simp [eqFieldsOk] at hf
  | cons ck cks =>
   cases ck with
   | sl t=>simp [eqFieldsOk] at hf
   | sc z =>
    obtain ⟨⟨hn,ho,hz⟩,hf⟩:=hf
    have step:∀ (x y:Value) (b:Bool) (l' r':List CV) (q':Bool),xs[j]?=some x->ys[j]?=some y->(∀ w,(isAgg fd.type).run P w=.ok false w)->(∀ w,(Op.equalIn (d+1) fd.type x y).run P w=.ok b w) ->
      eqCells cks l' r'=some q'->(∀ i c,l'[i]?=some c->∃ u,xs[j+1+i]?=some u/\c.R g u)->(∀ i c,r'[i]?=some c->∃ u,ys[j+1+i]?=some u/\c.R g u) ->
      (Op.eqFields (d+1) xs ys (fd :: fs)).run P w=.ok (b && q') w:=by
     intro x y b l' r' q' hx hy hagg heq hq hl' hr'
     have:=ih cks (j+1) l' r' q' hf hq hl' hr'
     have hpx:(part fd.type xs fd.offset).run P w=.ok x w:=by simp [part,hagg,ho,hx]
     have hpy:(part fd.type ys fd.offset).run P w=.ok y w:=by simp [part,hagg,ho,hy]
     simp only [Op.eqFields,hn,ne_eq,not_false_eq_true,if_true,Sem.run_bind,hpx,hpy,Result.andThen_ok,heq]
     cases b
     ·simp
     ·simpa using this
    have shift:∀ (vs:Array Value) (c0:CV) (l':List CV),(∀ i c,(c0 :: l')[i]?=some c->∃ u,vs[j+i]?=some u/\c.R g u)->∀ i c,l'[i]?=some c->∃ u,vs[j+1+i]?=some u/\c.R g u:=by
     intro vs c0 l' h i c hc
     have:=h (i+1) c (by simpa using hc)
     rwa [show j+(i+1)=j+1+i from by omega] at this
    rcases eqCells_inv he with ⟨k0,m0,k,x,l',y,r',q',rfl,rfl,rfl,hq,rfl⟩ | ⟨b,x,l',y,r',q',rfl,rfl,rfl,hq,rfl⟩
    ·obtain ⟨kt,hk⟩:=hz
     obtain ⟨u,hu,hru⟩:=hl 0 _ rfl
     obtain ⟨v,hv,hrv⟩:=hr 0 _ rfl
     have hu':u=.int k x:=R_val (g:=g) hru
     have hv':v=.int k y:=R_val (g:=g) hrv
     subst hu' hv'
     exact step _ _ (x == y) l' r' q' hu hv (fun w=>run_isAgg hk w) (fun w=>run_equalIn_int w d fd.type k kt x y hk) hq (shift xs _ l' hl) (shift ys _ r' hr)
    ·have hk:P.underlying fd.type=some .bool:=hz
     obtain ⟨u,hu,hru⟩:=hl 0 _ rfl
     obtain ⟨v,hv,hrv⟩:=hr 0 _ rfl
     have hu':u=.bool x:=R_val (g:=g) hru
     have hv':v=.bool y:=R_val (g:=g) hrv
     subst hu' hv'
     exact step _ _ (x == y) l' r' q' hu hv (fun w=>run_isAgg hk w) (fun w=>run_equalIn_bool' w d fd.type x y hk) hq (shift xs _ l' hl) (shift ys _ r' hr)
theorem eqCells_allSc:∀ (cks:List CK) (l r:List CV) (q:Bool),eqCells cks l r=some q->allSc cks=true:=by
 intro cks
 induction cks with
 | nil=>intro l r q hq;rfl
 | cons c cks ih =>
  intro l r q hq
  cases c with
  | sl t=>cases l <;> cases r <;> simp [eqCells] at hq
  | sc z =>
   rcases eqCells_inv hq with ⟨k0,m0,k,x,l',y,r',q',rfl,rfl,rfl,hq',_⟩ | ⟨b,x,l',y,r',q',rfl,rfl,rfl,hq',_⟩
   ·exact ih l' r' q' hq'
   ·exact ih l' r' q' hq'
theorem aggS_R {g:G} (henv:∀ x,(st.env x).R g (a.tmps.getD x undef)) {x:Operand} {l:List CV} (hx:aggS st x=some l) (hone:∀ vs,x=.const (.agg vs)->∀ v ∈ vs.toList,v.oneCell'=true) :
  ∃ vs,a.eval x=.agg vs/\∀ i c,l[i]?=some c->∃ u,vs[0+i]?=some u/\c.R g u:=by
 unfold aggS at hx
 split at hx
 ·rename_i vs
  injection hx with hx
  subst hx
  refine ⟨vs,rfl,fun i c hc=>?_⟩
  simp only [List.getElem?_map,Option.map_eq_some_iff] at hc
  obtain ⟨v,hv,rfl⟩:=hc
  refine ⟨v,by simpa using hv,.val v (hone vs rfl v (List.mem_of_getElem? hv))⟩
 ·split at hx
  ·rename_i vs he
   injection hx with hx
   subst hx
   have:=ev_R henv x
   rw [he] at this
   obtain ⟨us,h1,h2⟩:=this
   exact ⟨us,h1,fun i c hc=>by simpa using h2.2 i c hc⟩
  ·cases hx
def constOk (x:Operand):Bool :=
 match x with
 | .const (.agg vs)=>vs.all Value.oneCell'
 | _=>true
theorem constOk_spec {x:Operand} (h:constOk x=true):∀ vs,x=.const (.agg vs)->∀ v ∈ vs.toList,v.oneCell'=true:=by
 intro vs hx v hv
 subst hx
 have:=Array.all_eq_true_iff_forall_mem.1 h v (by simpa using hv)
 exact this
theorem snd_bin (h:Rel E w0 M n st a w) (ht:TabOk P E tab) (hd:∀ d,o.dst=some d->d < n) {op:BinOp} {ty yt:TypeId} {x y:Operand} (ho:o.op=.binOp op ty x y yt) (hcx:constOk x=true) (hcy:constOk y=true)
  {t:Tr} (htr:trBin tab st op ty x y=some t) (hp:t.pre):Sound P E w0 M n o st a w t:=by
 unfold trBin at htr
 split at htr
 ·rename_i k p k' q ex ey
  have vx:=(ev_val h ex).1
  have vy:=(ev_val h ey).1
  have hg:∀ w:World,(eqGuard op ty x y (.int k p) (.int k' q)).run P w=.ok () w:=fun w=>by rw [eqGuard_at_int];rfl
  split at htr
  ·rename_i hs
   cases hb:shf op k p q with
   | none=>rw [hb] at htr;simp at htr
   | some pv =>
    obtain ⟨p',v⟩:=pv
    rw [hb] at htr
    simp only [Option.map_some,Option.some.injEq] at htr
    subst htr
    obtain ⟨hr,h1⟩:=shf_run (w:=w) (P:=P) (k':=k') hb hp ty
    refine Sound.plain h hd (by simp [refs_sv]) (v:=v) ?_ fun g _ _=>R_sv h1
    simp [execOp,ho,hg,vx,vy,hr]
  ·rename_i hs
   split at htr
   ·rename_i hk
    subst hk
    cases hb:binI op k p q with
    | none=>rw [hb] at htr;simp at htr
    | some pv =>
     obtain ⟨p',v⟩:=pv
     rw [hb] at htr
     simp only [Option.map_some,Option.some.injEq] at htr
     subst htr
     obtain ⟨hr,h1⟩:=binI_run (w:=w) (P:=P) hb hp ty (by simpa using hs)
     refine Sound.plain h hd (by simp [refs_sv]) (v:=v) ?_ fun g _ _=>R_sv h1
     simp [execOp,ho,hg,vx,vy,hr]
   ·cases htr
 ·rename_i p q ex ey
  have vx:=(ev_val h ex).1
  have vy:=(ev_val h ey).1
  have hg:∀ w:World,(eqGuard op ty x y (.bool p) (.bool q)).run P w=.ok () w:=fun w=>by rw [eqGuard_at_bool];rfl
  split at htr
  ·rename_i sz by_ b0 hti
   injection htr with htr
   subst htr
   obtain ⟨i,d,_,hu,_,_,_,_,hsc⟩:=ht _ _ hti
   have hu:P.underlying ty=some .bool:=by rw [hu];exact congrArg some hsc
   refine Sound.plain h hd (by simp [refs_sv]) (v:=.bool (p == q)) ?_ fun g _ _=>R_sv rfl
   simp [execOp,ho,hg,vx,vy,binOp,Op.equal,Op.maxDepth,run_equalIn_bool' _ 9999 ty p q hu]
  ·rename_i sz by_ b0 hti
   injection htr with htr
   subst htr
   obtain ⟨i,d,_,hu,_,_,_,_,hsc⟩:=ht _ _ hti
   have hu:P.underlying ty=some .bool:=by rw [hu];exact congrArg some hsc
   refine Sound.plain h hd (by simp [refs_sv]) (v:=.bool (p != q)) ?_ fun g _ _=>R_sv rfl
   simp [execOp,ho,hg,vx,vy,binOp,Op.equal,Op.maxDepth,run_equalIn_bool' _ 9999 ty p q hu,bne]
  ·cases htr
 ·rename_i p q ex ey
  have vx:=(ev_val h ex).1
  have vy:=(ev_val h ey).1
  have hg:∀ w:World,(eqGuard op ty x y (.string p) (.string q)).run P w=.ok () w:=fun w=>by rw [eqGuard_at_string];rfl
  split at htr
  ·injection htr with htr
   subst htr
   refine Sound.plain h hd (by simp [refs_sv]) (v:=.bool (p.toList == q.toList)) ?_ fun g _ _=>R_sv rfl
   simp [execOp,ho,hg,vx,vy,binOp,Op.stringOp]
  ·injection htr with htr
   subst htr
   refine Sound.plain h hd (by simp [refs_sv]) (v:=.bool (!(p.toList == q.toList))) ?_ fun g _ _=>R_sv rfl
   simp [execOp,ho,hg,vx,vy,binOp,Op.stringOp]
  ·injection htr with htr
   subst htr
   refine Sound.plain h hd (by simp [refs_sv]) (v:=.string (p ++ q)) ?_ fun g _ _=>R_sv rfl
   have hp':((p.size+q.size:Nat):Int)<=9223372036854775807:=hp
   have hsz:¬ (((p.size+q.size:Nat):Int) > IntKind.i64.max):=by
    have:IntKind.i64.max=9223372036854775807:=by decide
    rw [this]
    omega
   have hr:(Op.stringOp .add p q).run P w=.ok (.string (p ++ q)) w:=by
    unfold Op.stringOp
    simp only [if_neg hsz,Sem.run_pure]
   simp [execOp,ho,hg,vx,vy,binOp,hr]
  ·cases htr
 ·split at htr
  ·rename_i e1 e2 _ _ _ sz by_ cks fs l r hti hl hr
   obtain ⟨g,hgood,henv⟩:=h.good
   obtain ⟨xs,hxs,hxl⟩:=aggS_R henv hl (constOk_spec hcx)
   obtain ⟨ys,hys,hyl⟩:=aggS_R henv hr (constOk_spec hcy)
   obtain ⟨i,d,_,hu,_,fields,zc,rfl,_,_,_,_,_,hall⟩:=ht _ _ hti
   have key:∀ q,eqCells cks l r=some q->allSc cks=true:=fun q hq=>eqCells_allSc cks l r q hq
   have run:∀ q,eqCells cks l r=some q->(eqGuard op ty x y (a.eval x) (a.eval y)).run P w=.ok () w/\(Op.equalIn 10000 ty (a.eval x) (a.eval y)).run P w=.ok q w:=by
    intro q hq
    obtain ⟨h1,h2,h3⟩:=hall (key q hq)
    have hf:P.fieldsOf ty=fields:=by simp [Program.fieldsOf,hu]
    rw [hxs,hys]
    refine ⟨run_eqGuard_agg w op ty x y xs ys h1,?_⟩
    rw [run_equalIn_struct w 9999 ty xs ys (by rw [hf];exact hu) h2,hf]
    exact eqCells_run xs ys 9998 fields.toList cks 0 l r q h3 hq hxl hyl
   split at htr
   ·cases hq:eqCells cks l r with
    | none=>rw [hq] at htr;simp at htr
    | some q =>
     rw [hq] at htr
     simp only [Option.map_some,Option.some.injEq] at htr
     subst htr
     obtain ⟨r1,r2⟩:=run q hq
     refine Sound.plain h hd (by simp [refs_sv]) (v:=.bool q) ?_ fun g _ _=>R_sv rfl
     rw [hxs,hys] at r1 r2
     simp [execOp,ho,r1,hxs,hys,run_eql_struct,r2]
   ·cases hq:eqCells cks l r with
    | none=>rw [hq] at htr;simp at htr
    | some q =>
     rw [hq] at htr
     simp only [Option.map_some,Option.some.injEq] at htr
     subst htr
     obtain ⟨r1,r2⟩:=run q hq
     refine Sound.plain h hd (by simp [refs_sv]) (v:=.bool (!q)) ?_ fun g _ _=>R_sv rfl
     rw [hxs,hys] at r1 r2
     simp [execOp,ho,r1,hxs,hys,run_neq_struct,r2]
   ·cases htr
  ·cases htr
 ·cases htr
theorem snd_un (h:Rel E w0 M n st a w) (hd:∀ d,o.dst=some d->d < n) {op:UnOp} {ty:TypeId} {x:Operand} (ho:o.op=.unOp op ty x) {t:Tr} (htr:trUn st op x=some t) (hp:t.pre):Sound P E w0 M n o st a w t:=by
 unfold trUn at htr
 split at htr
 ·rename_i b e
  injection htr with htr
  subst htr
  refine Sound.plain h hd (by simp [refs_sv]) (v:=.bool (!b)) ?_ fun g _ _=>R_sv rfl
  simp [execOp,ho,(ev_val h e).1,Op.unary]
 ·rename_i k m e
  injection htr with htr
  subst htr
  refine Sound.plain h hd (by simp [refs_sv]) (v:=.int k (-m)) ?_ fun g _ _=>R_sv rfl
  simp [execOp,ho,(ev_val h e).1,Op.unary,Op.intArith,wrap_in hp]
 ·cases htr
theorem snd_convert (h:Rel E w0 M n st a w) (ht:TabOk P E tab) (hd:∀ d,o.dst=some d->d < n) {src dst:TypeId} {x:Operand} (ho:o.op=.convert src dst x) {t:Tr} (htr:trConvert tab st src dst x=some t) (hp:t.pre) :
  Sound P E w0 M n o st a w t:=by
 unfold trConvert at htr
 split at htr
 ·rename_i k m ti sz by_ k' m' e hs hti
  injection htr with htr
  subst htr
  obtain ⟨i,d,_,hu,_,_,_,_,hsc⟩:=ht _ _ hti
  obtain ⟨i',d',_,hu',_⟩:=ht _ _ hs
  have hu:P.underlying dst=some (.int k'):=by rw [hu];exact congrArg some hsc
  refine Sound.plain h hd (by simp [refs_sv]) (v:=.int k' m) ?_ fun g _ _=>R_sv rfl
  have hr:=run_convert_int (P:=P) w src dst k m (by rw [hu'];rfl)
  simp [execOp,ho,(ev_val h e).1,convert,run_underlying hu',run_underlying hu,Conv.intToInt,wrap_in hp]
 ·cases htr
theorem snd_extract (h:Rel E w0 M n st a w) (hd:∀ d,o.dst=some d->d < n) {x:Operand} {i:Nat} (ho:o.op=.extract x i) {t:Tr} (htr:trExtract st x i=some t):Sound P E w0 M n o st a w t:=by
 unfold trExtract at htr
 split at htr
 ·rename_i l e
  split at htr
  ·rename_i s hs
   injection htr with htr
   subst htr
   obtain ⟨g,hg,henv⟩:=h.good
   have hx:=ev_R henv x
   rw [e] at hx
   obtain ⟨vs,h1,h2,h3⟩:=hx
   obtain ⟨u,hu,_⟩:=h3 i s hs
   refine Sound.plain h hd ?_ (v:=u) ?_ ?_
   ·intro id hid
    refine ev_refs h.cl x id ?_
    rw [e]
    exact mem_refsT hs hid
   ·simp [execOp,ho,h1,Instr.extract,hu]
   ·intro g' _ henv'
    have hx:=ev_R henv' x
    rw [e] at hx
    obtain ⟨vs',h1',_,h3'⟩:=hx
    rw [h1] at h1'
    injection h1' with h1'
    subst h1'
    obtain ⟨u',hu',hr⟩:=h3' i s hs
    rw [hu] at hu'
    injection hu' with hu'
    subst hu'
    exact hr
  ·cases htr
 ·cases htr
theorem snd_fieldAddr (h:Rel E w0 M n st a w) (ht:TabOk P E tab) (hd:∀ d,o.dst=some d->d < n) {ty:TypeId} {x:Operand} {f:Nat} (ho:o.op=.fieldAddr ty x f) {t:Tr} (htr:trFieldAddr tab st ty x f=some t) :
  Sound P E w0 M n o st a w t:=by
 unfold trFieldAddr at htr
 split at htr
 ·rename_i sz by_ cks fs hti
  split at htr
  ·rename_i off sz1 agg hf
   obtain ⟨i,d,_,hu,_,fields,zc,rfl,_,_,_,_,hfo,_⟩:=ht _ _ hti
   obtain ⟨fd,ifd,dd,hfd,hoff,hif,hsz,hud,hag⟩:=fieldsOk_get hfo hf
   simp only [Nat.zero_add] at hfd hoff hsz
   obtain ⟨g,hg,henv⟩:=h.good
   have hx:=ev_R henv x
   have run:∀ b o',a.eval x=.pointer (some ⟨b,o',none⟩)->(execOp a.eval o).run P w=.ok (.value (.pointer (some ⟨b,o'+off,none⟩))) w:=by
    intro b o' hb
    have:=run_fieldAt (w:=w) (b:=b) (o:=o') hu hfd hif (by omega)
    rw [hoff] at this
    simp [execOp,ho,hb,this]
   split at htr
   ·rename_i id o' e
    injection htr with htr
    subst htr
    rw [e] at hx
    obtain ⟨b,h1,h2⟩:=hx
    refine Sound.plain h hd (fun i hi=>ev_refs h.cl x i (by rw [e];exact hi)) (run b o' h2) fun g' _ henv'=>?_
    have hx:=ev_R henv' x
    rw [e] at hx
    obtain ⟨b',h1',h2'⟩:=hx
    rw [h2] at h2'
    simp at h2'
    subst h2'
    exact ⟨b,h1',rfl⟩
   ·rename_i id t k o' e
    injection htr with htr
    subst htr
    rw [e] at hx
    obtain ⟨b,h1,h2,h3,h4⟩:=hx
    refine Sound.plain h hd (fun i hi=>ev_refs h.cl x i (by rw [e];exact hi)) (run b _ h4) fun g' _ henv'=>?_
    have hx:=ev_R henv' x
    rw [e] at hx
    obtain ⟨b',h1',h2',h3',h4'⟩:=hx
    rw [h4] at h4'
    simp at h4'
    subst h4'
    exact ⟨b,h1',h2',h3',by rw [Nat.add_assoc]⟩
   ·rename_i t xs k o' e
    injection htr with htr
    subst htr
    rw [e] at hx
    obtain ⟨b,oo,vs,h1,h2,h3,h4,h5⟩:=hx
    refine Sound.plain h hd (fun i hi=>ev_refs h.cl x i (by rw [e];exact hi)) (run b _ h5) fun g' _ henv'=>?_
    have hx:=ev_R henv' x
    rw [e] at hx
    obtain ⟨b',oo',vs',h1',h2',h3',h4',h5'⟩:=hx
    rw [h5] at h5'
    simp at h5'
    obtain ⟨rfl,hoo⟩:=h5'
    exact ⟨b,oo',vs',h1',h2',h3',h4',by rw [hoo];simp [Nat.add_assoc]⟩
   ·cases htr
  ·cases htr
 ·cases htr
end
end Go.SE

namespace Go.SE
variable [Base]
open Go.RowKit
section
variable {P:Program} {E:Ty->TypeId} {tab:TypeId->Option TI} {w0:World} {M:MM} {n:Nat} {o:Oper} {st:St} {a:Act} {w:World}
theorem castL_eq {t t':Ty} {xs:List t'.den} {ys:List t.den} (h:castL t t' xs=some ys):t'=t/\HEq xs ys:=by
 cases t <;> cases t' <;> simp only [castL,Option.some.injEq,reduceCtorEq] at h <;> (subst h;exact ⟨rfl,HEq.rfl⟩)
def SliceR (w:World) (g:G) (t:Ty) (xs:List t.den) (v:Value):Prop :=
 ((∃ a,v=.slice a 0 0)/\xs=[]) ∨ ∃ b o cap vs ty fz,v=.slice (some ⟨b,o,none⟩) xs.length cap/\w.heap[b]?=some (.cells vs ty fz)/\xs.length<=cap/\cap<=maxLen/\RowR g.ro (flat t xs) vs o
theorem SliceR.of_DR {g:G} (hro:∀ b vs,g.ro b=some vs->Seen w b vs) {t:Ty} {xs:List t.den} {v:Value} (h:DR g.ro (.arr t xs) v):SliceR w g t xs v:=by
 rcases h.arr_inv with h | ⟨b,off,cap,vs,h1,h2,h3,h4,h5,_⟩
 ·exact .inl h
 ·obtain ⟨ty,fz,hh,_⟩:=hro b vs h2
  exact .inr ⟨b,off,cap,vs,ty,fz,h1,hh,h3,h4,h5⟩
theorem SliceR.of_res {g:G} {id fam:Nat} {t:Ty} {xs:List t.den} (h:ResR E w g id (.sl fam t xs)):SliceR w g t xs (g.κ id):=by
 obtain ⟨_,h⟩:=h
 rcases h with ⟨h1,h2⟩ | ⟨b,cap,cur,h1,h2,h3,h4,h5,h6⟩
 ·exact .inl ⟨⟨_,h1⟩,h2⟩
 ·exact .inr ⟨b,0,cap,cur,E t,(0,0),h1,h2,h3,h4.le,h6⟩
theorem rdl_R {g:G} (hg:Good E w0 M g st w) {t:Ty} {c:CV} {xs:List t.den} (h:rdl st.mem t c=some xs) {v:Value} (hc:c.R g v):SliceR w g t xs v:=by
 unfold rdl at h
 split at h
 ·rename_i t' ys
  obtain ⟨rfl,hh⟩:=castL_eq h
  cases hh
  exact SliceR.of_DR hg.ro hc
 ·rename_i t' ys
  obtain ⟨rfl,hh⟩:=castL_eq h
  cases hh
  have hc':DR g.ro (.ne t' ys) v:=hc
  exact SliceR.of_DR hg.ro hc'.unne
 ·rename_i t' ys y
  obtain ⟨rfl,hh⟩:=castL_eq h
  cases hh
  exact SliceR.of_DR hg.ro (DR.unfix hc)
 ·rename_i id
  split at h
  ·rename_i f t' ys hm
   obtain ⟨rfl,hh⟩:=castL_eq h
   cases hh
   rw [hc.1]
   exact SliceR.of_res (hg.res _ _ hm)
  ·cases h
 ·injection h with h
  subst h
  exact .inl ⟨⟨_,hc⟩,rfl⟩
 ·cases h
theorem rds_R {g:G} (hg:Good E w0 M g st w) {t:Ty} {c:CV} {xs:List t.den} (h:rds st.mem t c=some xs) {v:Value} (hc:c.R g v):SliceR w g t xs v:=by
 unfold rds at h
 split at h
 ·rename_i ys
  injection h with h
  subst h
  exact (SliceR.of_DR hg.ro (t:=.lfact) hc:SliceR w g .lfact _ v)
 ·rename_i ys
  injection h with h
  subst h
  exact (SliceR.of_DR hg.ro (t:=.latom) hc:SliceR w g .latom _ v)
 ·exact rdl_R hg h hc
theorem castW_eq {t t':Ty} {xs:List t'.den} {ys:List GCmd} (h:castW t t' xs=some ys):t=.cmd/\t'=.lcmd/\HEq ys xs:=by
 unfold castW at h
 split at h
 ·injection h with h;subst h;exact ⟨rfl,rfl,HEq.rfl⟩
 ·cases h
theorem SliceR.len {g:G} {t:Ty} {xs:List t.den} {v:Value} (h:SliceR w g t xs v):∃ b cap,v=.slice b xs.length cap:=by
 rcases h with ⟨⟨a,h⟩,rfl⟩ | ⟨b,o,cap,vs,ty,fz,h,_⟩
 ·exact ⟨a,0,h⟩
 ·exact ⟨_,cap,h⟩
theorem xfix_R {g:G} {s:S} {xs:List XCmd} {u v:Value} (hx:xfix s=some (xs,v)) (h:s.R g u):v=u/\DR g.ro (.arr .xcmd xs) v:=by
 unfold xfix at hx
 split at hx
 ·rename_i ys y
  injection hx with hx
  injection hx with h1 h2
  subst h1 h2
  have h':DR g.ro (.fix .xcmd ys y) u:=h
  cases h' with
  | fix t xs v h=>exact ⟨rfl,h⟩
 ·cases hx
theorem lenW_R {g:G} (hg:Good E w0 M g st w) {t:Ty} {c:CV} {k:Nat} (h:lenW t c=some k) {v:Value} (hc:c.R g v):∃ b cap,v=.slice b k cap:=by
 unfold lenW at h
 split at h
 ·injection h with h
  subst h
  exact (SliceR.of_DR hg.ro (t:=.lcmd) hc).len
 ·cases h
theorem snd_len (h:Rel E w0 M n st a w) (ht:TabOk P E tab) (hd:∀ d,o.dst=some d->d < n) {ty:TypeId} {x:Operand} {args:Array Operand} {tys:Array TypeId} (hargs:args.toList=[x]) (htys:tys.toList=[ty])
  (ho:o.op=.call ⟨.builtin .len,args,tys⟩) {t:Tr} (htr:trLen tab st ty x=some t):Sound P E w0 M n o st a w t:=by
 have ea:args=#[x]:=by cases args;simp_all
 have et:tys=#[ty]:=by cases tys;simp_all
 subst ea et
 obtain ⟨g,hg,henv⟩:=h.good
 have hx:=ev_R henv x
 unfold trLen at htr
 split at htr
 ·rename_i sz by_ rw_ e t' v hti hev
  split at htr
  ·rename_i xs u hxf
   injection htr with htr
   subst htr
   obtain ⟨i,d,_,hu,_,_,⟨rfl,_⟩,_⟩:=ht _ _ hti
   rw [hev] at hx
   obtain ⟨_,hxd⟩:=xfix_R hxf hx
   subst_vars
   obtain ⟨b,cap,hv⟩:=(SliceR.of_DR hg.ro hxd).len
   refine Sound.plain h hd (by simp [refs_sv]) (v:=.int .i64 xs.length) ?_ fun g _ _=>R_sv rfl
   simp [execOp,ho,resolve,invoke,builtin,Builtin.len_,run_underlying hu,hv,goInt]
  split at htr
  ·rename_i xs hr
   injection htr with htr
   subst htr
   obtain ⟨i,d,_,hu,_,_,⟨rfl,_⟩,_⟩:=ht _ _ hti
   rw [hev] at hx
   obtain ⟨b,cap,hv⟩:=(rdl_R hg hr hx).len
   refine Sound.plain h hd (by simp [refs_sv]) (v:=.int .i64 xs.length) ?_ fun g _ _=>R_sv rfl
   simp [execOp,ho,resolve,invoke,builtin,Builtin.len_,run_underlying hu,hv,goInt]
  ·split at htr
   ·rename_i n hn
    injection htr with htr
    subst htr
    obtain ⟨i,d,_,hu,_,_,⟨rfl,_⟩,_⟩:=ht _ _ hti
    rw [hev] at hx
    obtain ⟨b,cap,hv⟩:=lenW_R hg hn hx
    refine Sound.plain h hd (by simp [refs_sv]) (v:=.int .i64 n) ?_ fun g _ _=>R_sv rfl
    simp [execOp,ho,resolve,invoke,builtin,Builtin.len_,run_underlying hu,hv,goInt]
   ·cases htr
 ·rename_i sz by_ s0 s hti hev
  injection htr with htr
  subst htr
  obtain ⟨i,d,_,hu,_,_,_,_,hsc⟩:=ht _ _ hti
  have hu:P.underlying ty=some .string:=by rw [hu];exact congrArg some hsc
  refine Sound.plain h hd (by simp [refs_sv]) (v:=.int .i64 s.size) ?_ fun g _ _=>R_sv rfl
  simp [execOp,ho,resolve,invoke,builtin,Builtin.len_,run_underlying hu,(ev_val h hev).1,goInt]
 ·rename_i sv0 sz by_ k e t' hti
  injection htr with htr
  subst htr
  obtain ⟨i,d,_,hu,_,rfl,_⟩:=ht _ _ hti
  refine Sound.plain h hd (by simp [refs_sv]) (v:=.int .i64 k) ?_ fun g _ _=>R_sv rfl
  simp [execOp,ho,resolve,invoke,builtin,Builtin.len_,run_underlying hu,goInt]
 ·cases htr
theorem wkS_R {g:G} {s:S} {v:Value} (h:s.R g v):(wkS s).R g v:=by
 unfold wkS
 split
 ·exact DR.unne h
 ·exact h
theorem wkS_own {s:S} {id:Nat} (h:wkS s=.s (.c (.own id))):s=.s (.c (.own id)):=by
 unfold wkS at h
 split at h
 ·cases h
 ·exact h
theorem weak_R {g:G} {c:CV} {v:Value} (h:c.R g v):(weak c).R g v:=by
 unfold weak
 split
 ·exact h
 ·cases h with
  | fix t xs v h=>exact h
 ·exact h
theorem weak_refs (c:CV):∀ id ∈ (weak c).refs,id ∈ c.refs:=by
 unfold weak
 split
 ·exact fun _ h=>h
 ·intro id h;simp [CV.refs] at h
 ·exact fun _ h=>h
theorem cellsAt_run {ti:TI} {ty:TypeId} (hti:TIok P E ty ti) {g:G} {cs:List CV} {vs:Array Value} {b bo off:Nat} {bt:TypeId} {fz:Nat × Nat} (hb:w.heap[b]?=some (.cells vs bt fz))
  (hc:∀ (j:Nat) (c:CV),cs[j]?=some c->∃ u,vs[bo+j]?=some u/\c.R g u) {s:S} (hs:cellsAt ti.k ti.sz off cs=some s) :
  ∃ v,(Instr.loadAt ty (.pointer (some ⟨b,bo+off,none⟩))).run P w=.ok v w/\s.R g v/\(∀ id ∈ s.refs,id ∈ refsL cs):=by
 obtain ⟨i,d,hi,hu,hsz,hk⟩:=hti
 have scalar:∀ v,cs[off]?=some v->s=.s (.c (weak v))->aggD d=false ->
   ∃ v,(Instr.loadAt ty (.pointer (some ⟨b,bo+off,none⟩))).run P w=.ok v w/\s.R g v/\(∀ id ∈ s.refs,id ∈ refsL cs):=by
  intro c hcv hs ha
  obtain ⟨u,hu1,hu2⟩:=hc off c hcv
  subst hs
  exact ⟨u,run_loadAt_one hb hu1 hu ha,weak_R hu2,fun id hid=>mem_refsL hcv (weak_refs c id hid)⟩
 cases hkk:ti.k with
 | sc z =>
  rw [hkk] at hs hk
  simp only [cellsAt] at hs
  split at hs
  ·rename_i v hv
   injection hs with hs
   have ha:aggD d=false:=by
    have:=hk.2.2.2
    unfold scD at this
    split at this <;> first | (subst this;rfl) | exact this
   exact scalar v hv hs.symm ha
  ·cases hs
 | sl rw_ e t =>
  rw [hkk] at hs hk
  simp only [cellsAt] at hs
  split at hs
  ·rename_i v hv
   injection hs with hs
   have ha:aggD d=false:=by rw [hk.2.1.1];rfl
   exact scalar v hv hs.symm ha
  ·cases hs
 | st cks fs =>
  rw [hkk] at hs hk
  simp only [cellsAt] at hs
  split at hs
  ·rename_i hle
   injection hs with hs
   obtain ⟨fields,zc,rfl,_⟩:=hk
   have hlen:∀ j,j < ti.sz->∃ u c,cs[off+j]?=some c/\vs[bo+(off+j)]?=some u/\c.R g u:=by
    intro j hj
    have hlt:off+j < cs.length:=by omega
    obtain ⟨u,h1,h2⟩:=hc (off+j) cs[off+j] (List.getElem?_eq_getElem hlt)
    exact ⟨u,_,List.getElem?_eq_getElem hlt,h1,h2⟩
   have hfit:bo+off+i.size<=vs.size:=by
    obtain ⟨u,c,_,h2,_⟩:=hlen (ti.sz - 1) (by omega)
    have:=(Array.getElem?_eq_some_iff.1 h2).1
    omega
   refine ⟨_,run_loadAt_agg hb hu rfl hi hfit,?_,?_⟩
   ·subst hs
    refine ⟨_,rfl,?_,?_⟩
    ·simp;omega
    ·intro j c hj
     have hjlt:j < ti.sz:=by
      have:=(List.getElem?_eq_some_iff.1 hj).1
      simp at this
      omega
     rw [List.getElem?_take_of_lt hjlt,List.getElem?_drop] at hj
     obtain ⟨u,h1,h2⟩:=hc (off+j) c hj
     refine ⟨u,?_,h2⟩
     rw [Array.getElem?_extract,if_pos (by omega),← h1]
     congr 1
     omega
   ·subst hs
    intro id hid
    obtain ⟨c,hcm,hci⟩:=refsL_mem hid
    have:c ∈ cs:=List.mem_of_mem_drop (List.mem_of_mem_take hcm)
    obtain ⟨j,hj⟩:=List.getElem?_of_mem this
    exact mem_refsL hj hci
  ·cases hs
 | ar m e t =>
  rw [hkk] at hs
  simp [cellsAt] at hs
 | bld _ =>
  rw [hkk] at hs
  simp [cellsAt] at hs
theorem Sound.plain1 (h:Rel E w0 M n st a w) (hd:∀ d,o.dst=some d->d < n) {s:S} {pre:Prop} {g:G} (hg:Good E w0 M g st w) (henv:∀ x,(st.env x).R g (a.tmps.getD x undef))
  (hrefs:∀ id ∈ s.refs,(st.mem id).isSome=true) {v:Value} (hrun:(execOp a.eval o).run P w=.ok (.value v) w) (hv:s.R g v):Sound P E w0 M n o st a w (Tr.one s pre):=by
 intro next Q hn
 unfold Oper.wp
 rw [hrun,Oper.upon_value]
 refine hn () _ _ trivial ?_
 have e:=app_one st o.dst s pre [] ()
 refine Rel.app h hd henv (fun _ _ h=>h) rfl (fun _ _=>⟨rfl,rfl⟩) (g':=g) ?_ hv ?_ ?_ ?_
 ·rw [e];exact hg.env rfl rfl rfl rfl
 ·rw [e];exact fun id hid=>hid
 ·rw [e];exact hrefs
 ·rw [e];exact h.cl.2
theorem row_cells {g:G} {t:Ty} {xs:List t.den} {vs:Array Value} {bo k:Nat} (h:RowR g.ro (flat t xs) vs bo) (hk:k < xs.length) :
  ∀ (j:Nat) (c:CV),((t.cells (xs.getD k t.zero)).map CV.d)[j]?=some c->∃ u,vs[bo+k * t.sz+j]?=some u/\c.R g u:=by
 intro j c hj
 simp only [List.getElem?_map,Option.map_eq_some_iff] at hj
 obtain ⟨x,hx,rfl⟩:=hj
 have hjl:j < t.sz:=by
  have:=(List.getElem?_eq_some_iff.1 hx).1
  rwa [cells_len] at this
 obtain ⟨u,h1,h2⟩:=h (k * t.sz+j) x (by rw [flat_get t xs k j hk hjl];exact hx)
 exact ⟨u,by rw [Nat.add_assoc];exact h1,h2⟩
theorem refs_d (l:List DC):refsL (l.map CV.d)=[]:=by
 induction l with
 | nil=>rfl
 | cons x l ih=>simp [refsL,CV.refs,ih]
theorem map_one {α:Type} {f:α->Tr} {x:Option α} {t:Tr} (h:x.map f=some t):∃ y,x=some y/\f y=t:=by
 cases x with
 | none=>simp at h
 | some y=>exact ⟨y,rfl,by simpa using h⟩
theorem snd_load (h:Rel E w0 M n st a w) (ht:TabOk P E tab) (hd:∀ d,o.dst=some d->d < n) {ty:TypeId} {x:Operand} (ho:o.op=.load ty x) {t:Tr} (htr:trLoad tab st ty x=some t) (hp:t.pre):Sound P E w0 M n o st a w t:=by
 obtain ⟨g,hg,henv⟩:=h.good
 have hx:=ev_R henv x
 have fin:∀ {s:S} {v:Value} {pre:Prop},(Instr.loadAt ty (a.eval x)).run P w=.ok v w->s.R g v->(∀ id ∈ s.refs,(st.mem id).isSome=true)->Sound P E w0 M n o st a w (Tr.one s pre):=by
  intro s v pre hr hv hrefs
  refine Sound.plain1 h hd hg henv hrefs (v:=v) ?_ hv
  simp [execOp,ho,hr]
 unfold trLoad at htr
 split at htr
 ·rename_i ti id off hti hev
  rw [hev] at hx
  obtain ⟨b,hκ,hv⟩:=hx
  split at htr
  ·rename_i cs hm
   obtain ⟨s,hs,rfl⟩:=map_one htr
   obtain ⟨b',vs,bt,hκ',hb,hc⟩:=hg.res _ _ hm
   rw [hκ] at hκ'
   simp at hκ'
   subst hκ'
   obtain ⟨v,h1,h2,h3⟩:=cellsAt_run (P:=P) (bo:=0) (ht _ _ hti) hb (fun j c hj=>by simpa using hc.2 j c hj) hs
   refine fin (v:=v) ?_ h2 fun id' hid=>h.cl.2 _ _ hm _ (h3 _ hid)
   rw [hv]
   simpa using h1
  ·rename_i t' xs hm
   split at htr
   ·rename_i k e t'' hk
    injection htr with htr
    subst htr
    have hsz:ti.sz=xs.length * t'.sz:=hp
    obtain ⟨hln,b',vs,bt,hκ',hb,hvs,hrow⟩:=hg.res _ _ hm
    rw [hκ] at hκ'
    simp at hκ'
    subst hκ'
    obtain ⟨i,d,hi,hu,hisz,hko⟩:=ht _ _ hti
    rw [hk] at hko
    obtain ⟨rfl,_⟩:=hko
    have hr:=run_loadAt_agg (o:=0) hb hu rfl hi (by omega)
    refine fin (v:=_) (by rw [hv];exact hr) ?_ (by simp [S.refs,S0.refs])
    refine ⟨_,rfl,?_,?_⟩
    ·simp;omega
    ·rw [hisz,hsz,← hvs]
     simpa using hrow
   ·cases htr
  ·cases htr
 ·rename_i ti id t' k off hti hev
  rw [hev] at hx
  obtain ⟨b,hκ,h0,hln,hv⟩:=hx
  have go:∀ {xs:List t'.den} {vs:Array Value} {bt:TypeId},w.heap[b]?=some (.cells vs bt (0,0))->RowR g.ro (flat t' xs) vs 0->k.toNat < xs.length->∀ {s:S},dcellsAt ti.k ti.sz off (t'.cells (xs.getD k.toNat t'.zero))=some s ->
    Sound P E w0 M n o st a w (Tr.one s):=by
   intro xs vs bt hb hrow hlt s hs
   have:=row_cells hrow hlt
   obtain ⟨v,h1,h2,h3⟩:=cellsAt_run (P:=P) (bo:=0+k.toNat * t'.sz) (ht _ _ hti) hb this hs
   refine fin (v:=v) ?_ h2 fun id' hid=>by have:=h3 _ hid;rw [refs_d] at this;simp at this
   rw [hv]
   simpa using h1
  split at htr
  ·rename_i t'' xs hm
   split at htr
   ·rename_i ys hcast
    obtain ⟨rfl,hh⟩:=castL_eq hcast
    cases hh
    obtain ⟨s,hs,rfl⟩:=map_one htr
    obtain ⟨hl,b',vs,bt,hκ',hb,hvs,hrow⟩:=hg.res _ _ hm
    rw [hκ'] at hκ
    simp [blkOf] at hκ
    subst hκ
    exact go hb hrow (by omega) hs
   ·cases htr
  ·rename_i fam t'' xs hm
   split at htr
   ·rename_i ys hcast
    obtain ⟨rfl,hh⟩:=castL_eq hcast
    cases hh
    obtain ⟨s,hs,rfl⟩:=map_one htr
    obtain ⟨hl,hres⟩:=hg.res _ _ hm
    rcases hres with ⟨h1,_⟩ | ⟨b',cap,cur,hκ',hb,hle,hcap,hcs,hrow⟩
    ·rw [h1] at hκ;simp [blkOf] at hκ
    ·rw [hκ'] at hκ
     simp [blkOf] at hκ
     subst hκ
     exact go hb hrow (by omega) hs
   ·cases htr
  ·cases htr
 ·rename_i ti t' xs k off hti hev
  rw [hev] at hx
  obtain ⟨b,oo,vs,hro,h0,hlt,hrow,hv⟩:=hx
  obtain ⟨bt,fz,hb,hq_⟩:=hg.ro b vs hro
  obtain ⟨s,hs,rfl⟩:=map_one htr
  obtain ⟨v,h1,h2,h3⟩:=cellsAt_run (P:=P) (bo:=oo+k.toNat * t'.sz) (ht _ _ hti) hb (row_cells hrow hlt) hs
  refine fin (v:=v) (by rw [hv];exact h1) h2 fun id' hid=>by have:=h3 _ hid;rw [refs_d] at this;simp at this
 ·rename_i ti t' xs hti hev
  rw [hev] at hx
  obtain ⟨b,vs,hro,hvs,hrow,hv⟩:=hx
  obtain ⟨bt,fz,hb,hq_⟩:=hg.ro b vs hro
  split at htr
  ·rename_i k e t'' hk
   injection htr with htr
   subst htr
   have hsz:ti.sz=xs.length * t'.sz:=hp
   obtain ⟨i,d,hi,hu,hisz,hko⟩:=ht _ _ hti
   rw [hk] at hko
   obtain ⟨rfl,_⟩:=hko
   have hr:=run_loadAt_agg (o:=0) hb hu rfl hi (by omega)
   refine fin (v:=_) (by rw [hv];exact hr) ?_ (by simp [S.refs,S0.refs])
   refine ⟨_,rfl,?_,?_⟩
   ·simp;omega
   ·rw [hisz,hsz,← hvs]
    simpa using hrow
  ·cases htr
 ·cases htr
theorem snd_indexAddr (h:Rel E w0 M n st a w) (ht:TabOk P E tab) (hd:∀ d,o.dst=some d->d < n) {ty:TypeId} {x i:Operand} (ho:o.op=.indexAddr ty x i) {t:Tr} (htr:trIndexAddr tab st ty x i=some t) (hp:t.pre) :
  Sound P E w0 M n o st a w t:=by
 obtain ⟨g,hg,henv⟩:=h.good
 have hx:=ev_R henv x
 have hi':=ev_R henv i
 have fin:∀ {s:S} {v:Value} {pre:Prop},(Instr.indexAt ty (a.eval x) (a.eval i)).run P w=.ok v w->s.R g v->(∀ id ∈ s.refs,(st.mem id).isSome=true)->Sound P E w0 M n o st a w (Tr.one s pre):=by
  intro s v pre hr hv hrefs
  refine Sound.plain1 h hd hg henv hrefs (v:=v) ?_ hv
  simp [execOp,ho,hr]
 unfold trIndexAddr at htr
 split at htr
 ·rename_i sz by_ rw_ e t' ik k hti hei
  have vi:=(ev_val h hei).1
  obtain ⟨inf,d,_,hu,_,_,⟨rfl,_⟩,ie,hie,hsz,_⟩:=ht _ _ hti
  split at htr
  ·rename_i xs u hxf
   obtain ⟨hxv,hxd⟩:=xfix_R hxf hx
   split at htr
   ·rename_i h10
    rw [h10] at hsz
    split at htr
    ·injection htr with htr
     subst htr
     obtain ⟨h0,h1⟩:=hp
     rcases DR.arr_inv hxd with ⟨_,h2⟩ | ⟨b,off,cap,vs,hv,hro,hl,hc,hrow,_⟩
     ·subst h2;simp at h1;omega
     ·have hr:=run_indexAt_sl (w:=w) (P:=P) (b:=b) (o:=off) (len:=xs.length) (cap:=cap) (k:=ik) hu hie h0 h1
      refine fin (v:=ptrAt u k.toNat) (by rw [← hxv,hv,vi,hr];simp only [ptrAt];rw [hsz]) ?_ (by simp [refs_sv])
      rw [hv]
      exact R_sv rfl
    ·injection htr with htr
     subst htr
     obtain ⟨h0,h1⟩:=hp
     rcases DR.arr_inv hxd with ⟨_,h2⟩ | ⟨b,off,cap,vs,hv,hro,hl,hc,hrow,_⟩
     ·subst h2;simp at h1;omega
     ·have hr:=run_indexAt_sl (w:=w) (P:=P) (b:=b) (o:=off) (len:=xs.length) (cap:=cap) (k:=ik) hu hie h0 h1
      refine fin (by rw [← hxv,hv,vi];exact hr) ?_ (by simp [S.refs,S0.refs,CV.refs])
      exact ⟨b,off,vs,hro,h0,by omega,hrow,by rw [hsz,Nat.add_zero];rfl⟩
   ·cases htr
  replace hx:=wkS_R hx
  split at htr
  ·rename_i t'' xs hev
   split at htr
   ·rename_i ys hcast
    obtain ⟨rfl,hh⟩:=castL_eq hcast
    cases hh
    injection htr with htr
    subst htr
    rw [hev] at hx
    obtain ⟨h0,h1⟩:=hp
    rcases DR.arr_inv hx with ⟨_,h2⟩ | ⟨b,off,cap,vs,hv,hro,hl,hc,hrow,_⟩
    ·subst h2;simp at h1;omega
    ·have hr:=run_indexAt_sl (w:=w) (P:=P) (b:=b) (o:=off) (len:=xs.length) (cap:=cap) (k:=ik) hu hie h0 h1
     refine fin (by rw [hv,vi];exact hr) ?_ (by simp [S.refs,S0.refs,CV.refs])
     exact ⟨b,off,vs,hro,h0,by omega,hrow,by rw [hsz,Nat.add_zero]⟩
   ·split at htr
    ·rename_i ys hcast
     obtain ⟨rfl,rfl,hh⟩:=castW_eq hcast
     have hh:=eq_of_heq hh
     subst hh
     injection htr with htr
     subst htr
     rw [hev] at hx
     obtain ⟨h0,h1⟩:=hp
     rcases DR.arr_inv hx with ⟨_,h2⟩ | ⟨b,off,cap,vs,hv,hro,hl,hc,hrow,_⟩
     ·subst h2;simp at h1;omega
     ·have hr:=run_indexAt_sl (w:=w) (P:=P) (b:=b) (o:=off) (len:=List.length (α:=GCmd) ys) (cap:=cap) (k:=ik) hu hie h0 h1
      refine fin (by rw [hv,vi];exact hr) ?_ (by simp [S.refs,S0.refs,CV.refs])
      exact ⟨b,off,vs,hro,h0,by omega,hrow,by rw [hsz,Nat.add_zero];rfl⟩
    ·cases htr
  ·rename_i id hev
   rw [hev] at hx
   split at htr
   ·rename_i fam t'' xs hm
    split at htr
    ·rename_i ys hcast
     obtain ⟨rfl,hh⟩:=castL_eq hcast
     cases hh
     injection htr with htr
     subst htr
     obtain ⟨h0,h1⟩:=hp
     obtain ⟨hln,hres⟩:=hg.res _ _ hm
     rcases hres with ⟨_,h2⟩ | ⟨b,cap,cur,hκ,hb,hle,hcap,hcs,hrow⟩
     ·subst h2;simp at h1;omega
     ·have hr:=run_indexAt_sl (w:=w) (P:=P) (b:=b) (o:=0) (len:=xs.length) (cap:=cap) (k:=ik) hu hie h0 h1
      refine fin (by rw [hx.1,hκ,vi];exact hr) ?_ ?_
      ·exact ⟨b,by rw [hκ];rfl,h0,by omega,by rw [hsz,Nat.zero_add,Nat.add_zero]⟩
      ·intro id' hid
       simp [S.refs,S0.refs,CV.refs] at hid
       subst hid
       simp [hm]
    ·cases htr
   ·cases htr
  ·cases htr
 ·rename_i sz by_ m e t' ik k hti hei
  have vi:=(ev_val h hei).1
  obtain ⟨inf,d,_,hu,_,rfl,_,ie,zc,hie,hsz,_⟩:=ht _ _ hti
  split at htr
  ·rename_i id hev
   rw [hev] at hx
   obtain ⟨b,hκ,hv⟩:=hx
   split at htr
   ·rename_i t'' xs hm
    split at htr
    ·rename_i ys hcast
     obtain ⟨rfl,hh⟩:=castL_eq hcast
     cases hh
     injection htr with htr
     subst htr
     obtain ⟨h0,h1,h2⟩:=hp
     have hr:=run_indexAt_ar (w:=w) (P:=P) (b:=b) (o:=0) (len:=m) (k:=ik) hu hie h0 h1
     obtain ⟨hln,b',vs,bt,hκ',hb,hvs,hrow⟩:=hg.res _ _ hm
     refine fin (by rw [hv,vi];exact hr) ?_ ?_
     ·exact ⟨b,by rw [hκ];rfl,h0,by omega,by rw [hsz,Nat.zero_add,Nat.add_zero]⟩
     ·intro id' hid
      simp [S.refs,S0.refs,CV.refs] at hid
      subst hid
      simp [hm]
    ·cases htr
   ·cases htr
  ·rename_i t'' xs hev
   split at htr
   ·rename_i ys hcast
    obtain ⟨rfl,hh⟩:=castL_eq hcast
    cases hh
    injection htr with htr
    subst htr
    rw [hev] at hx
    obtain ⟨h0,h1,h2⟩:=hp
    obtain ⟨b,vs,hro,hvs,hrow,hv⟩:=hx
    have hr:=run_indexAt_ar (w:=w) (P:=P) (b:=b) (o:=0) (len:=m) (k:=ik) hu hie h0 h1
    refine fin (by rw [hv,vi];exact hr) ?_ (by simp [S.refs,S0.refs,CV.refs])
    exact ⟨b,0,vs,hro,h0,by omega,hrow,by rw [hsz,Nat.add_zero]⟩
   ·cases htr
  ·cases htr
 ·cases htr
end
end Go.SE

namespace Go.SE
variable [Base]
open Go.RowKit
section
variable {P:Program} {E:Ty->TypeId} {tab:TypeId->Option TI} {w0:World} {M:MM} {n:Nat} {o:Oper} {st:St} {a:Act} {w:World}
theorem snd_field (h:Rel E w0 M n st a w) (ht:TabOk P E tab) (hd:∀ d,o.dst=some d->d < n) {ty:TypeId} {x:Operand} {f:Nat} (ho:o.op=.field ty x f) {t:Tr} (htr:trField tab st ty x f=some t):Sound P E w0 M n o st a w t:=by
 obtain ⟨g,hg,henv⟩:=h.good
 have hx:=ev_R henv x
 unfold trField at htr
 split at htr
 ·rename_i sz by_ cks fs hti
  obtain ⟨i,d,_,hu,_,fields,zc,rfl,_,_,_,_,hfo,_⟩:=ht _ _ hti
  split at htr
  ·rename_i off sz1 vs hf hev
   split at htr
   ·rename_i hle
    injection htr with htr
    subst htr
    obtain ⟨fd,ifd,dd,hfd,hoff,hif,hsz,hud,hag⟩:=fieldsOk_get hfo hf
    simp only [Nat.zero_add] at hfd hoff hsz hag
    rw [hev] at hx
    obtain ⟨us,hv,hc⟩:=hx
    have hc1:=hc.1
    refine Sound.plain1 h hd hg henv ?_ (v:=.agg (us.extract off (off+sz1))) ?_ ?_
    ·intro id hid
     obtain ⟨c,hcm,hci⟩:=refsL_mem hid
     have:c ∈ vs:=List.mem_of_mem_drop (List.mem_of_mem_take hcm)
     obtain ⟨j,hj⟩:=List.getElem?_of_mem this
     exact ev_refs h.cl x id (by rw [hev];exact mem_refsL hj hci)
    ·simp [execOp,ho,Instr.field,run_underlying hu,hfd,hv,asAgg,part,run_isAgg hud,hag,run_sizeOf hif,hoff,hsz]
    ·refine ⟨_,rfl,?_,?_⟩
     ·simp;omega
     ·intro j c hj
      have hjlt:j < sz1:=by
       have:=(List.getElem?_eq_some_iff.1 hj).1
       simp at this
       omega
      rw [List.getElem?_take_of_lt hjlt,List.getElem?_drop] at hj
      obtain ⟨u,h1,h2⟩:=hc.2 (off+j) c hj
      exact ⟨u,by rw [Array.getElem?_extract,if_pos (by omega)];exact h1,h2⟩
   ·cases htr
  ·rename_i off sz1 vs hf hev
   split at htr
   ·rename_i v hvs
    injection htr with htr
    subst htr
    obtain ⟨fd,ifd,dd,hfd,hoff,hif,hsz,hud,hag⟩:=fieldsOk_get hfo hf
    simp only [Nat.zero_add] at hfd hoff hsz hag
    rw [hev] at hx
    obtain ⟨us,hv,hc⟩:=hx
    obtain ⟨u,hu1,hu2⟩:=hc.2 off v hvs
    refine Sound.plain1 h hd hg henv ?_ (v:=u) ?_ hu2
    ·intro id hid
     exact ev_refs h.cl x id (by rw [hev];exact mem_refsL hvs hid)
    ·simp [execOp,ho,Instr.field,run_underlying hu,hfd,hv,asAgg,part,run_isAgg hud,hag,hoff,hu1]
   ·cases htr
  ·cases htr
 ·cases htr
theorem bytes_get (s:ByteArray) (k:Nat) (h:k < s.size):s[k]?=some (s.data.toList.getD k 0):=by
 have h':k < s.data.toList.length:=by simpa using h
 have h2:k < s.data.size:=by simpa using h'
 rw [getElem?_pos s k h]
 have e:s.data.toList.getD k 0=s.data[k]:=by
  rw [List.getD_eq_getElem?_getD,List.getElem?_eq_getElem h']
  rfl
 rw [e]
 rfl
theorem snd_index (h:Rel E w0 M n st a w) (ht:TabOk P E tab) (hd:∀ d,o.dst=some d->d < n) {ty:TypeId} {x i:Operand} (ho:o.op=.index ty x i) {t:Tr} (htr:trIndex tab st ty x i=some t) (hp:t.pre):Sound P E w0 M n o st a w t:=by
 obtain ⟨g,hg,henv⟩:=h.good
 have hx:=ev_R henv x
 unfold trIndex at htr
 split at htr
 ·rename_i sz by_ s0 ik k s hti hei hev
  injection htr with htr
  subst htr
  obtain ⟨h0,h1⟩:=hp
  obtain ⟨inf,d,_,hu,_,_,_,_,hsc⟩:=ht _ _ hti
  have hu:P.underlying ty=some .string:=by rw [hu];exact congrArg some hsc
  refine Sound.plain1 h hd hg henv (by simp [refs_sv]) (v:=.int .u8 ((s.data.toList.getD k.toNat 0).toNat:Int)) ?_ (R_sv rfl)
  have hb:=bytes_get s k.toNat (by omega)
  simp [execOp,ho,Instr.index,(ev_val h hei).1,(ev_val h hev).1,asIntOf,run_underlying hu,h0,hb]
 ·rename_i sz by_ m e t' ik k t'' xs hti hei hev
  split at htr
  ·rename_i ys hcast
   obtain ⟨rfl,hh⟩:=castL_eq hcast
   cases hh
   split at htr
   ·rename_i hs1
    obtain ⟨s,hs,rfl⟩:=map_one htr
    obtain ⟨h0,h1,h2⟩:=hp
    obtain ⟨inf,d,_,hu,_,rfl,_,ie,zc,hie,hsz,_,_,de,hde,hda'⟩:=ht _ _ hti
    rw [hev] at hx
    obtain ⟨vs,hv,hvs,hrow⟩:=hx
    have hlt:k.toNat < xs.length:=by omega
    have:=row_cells hrow hlt
    simp only [dcellsAt,cellsAt] at hs
    split at hs
    ·rename_i c hc
     injection hs with hs
     subst hs
     obtain ⟨u,hu1,hu2⟩:=this 0 c hc
     have hda:=hda' hs1
     refine Sound.plain1 h hd hg henv ?_ (v:=u) ?_ (weak_R hu2)
     ·intro id hid
      have:id ∈ refsL ((t''.cells (xs.getD k.toNat t''.zero)).map CV.d):=mem_refsL hc (weak_refs c id hid)
      rw [refs_d] at this
      simp at this
     ·simp only [Nat.zero_add,Nat.add_zero] at hu1
      have h1':k < (m:Int):=h1
      simp [execOp,ho,Instr.index,(ev_val h hei).1,hv,asIntOf,run_underlying hu,h0,h1',run_sizeOf hie,hsz,part,run_isAgg hde,hda,hu1]
    ·cases hs
   ·cases htr
  ·cases htr
 ·cases htr
theorem intOp_val (h:Rel E w0 M n st a w) {x:Option Operand} {l:Option Int} (he:intOp st x=some l):(x=none/\l=none) ∨ ∃ y k q,x=some y/\l=some q/\a.eval y=.int k q:=by
 unfold intOp at he
 split at he
 ·injection he with he;exact .inl ⟨rfl,he.symm⟩
 ·rename_i y
  split at he
  ·rename_i k q hv
   injection he with he
   exact .inr ⟨y,k,q,rfl,he.symm,(ev_val h hv).1⟩
  ·cases he
theorem run_bounds {lo hi:Option Operand} {l h:Option Int} (hr:Rel E w0 M n st a w) (hl:intOp st lo=some l) (hh:intOp st hi=some h) (isSlice:Bool) (len cap:Nat) (hle:len<=cap)
  (h0:0<=l.getD 0) (h1:l.getD 0<=h.getD len) (h2:h.getD len<=len) :
  (Instr.sliceBounds isSlice len cap (lo.map a.eval) (hi.map a.eval) none).run P w=.ok ((l.getD 0).toNat,(h.getD len).toNat,cap) w:=by
 rcases intOp_val hr hl with ⟨rfl,rfl⟩ | ⟨y,k,q,rfl,rfl,hy⟩ <;> rcases intOp_val hr hh with ⟨rfl,rfl⟩ | ⟨y',k',q',rfl,rfl,hy'⟩
 ·simp [Instr.sliceBounds]
 ·simp only [Option.getD_some,Option.getD_none] at h0 h1 h2
  have e2:q'<=(cap:Int):=by omega
  simp [Instr.sliceBounds,hy',run_sliceBound,h1,e2]
 ·simp only [Option.getD_some,Option.getD_none] at h0 h1 h2
  simp [Instr.sliceBounds,hy,run_sliceBound,h0,h1]
 ·simp only [Option.getD_some,Option.getD_none] at h0 h1 h2
  have e2:q'<=(cap:Int):=by omega
  have e3:0<=q':=by omega
  have e4:q<=((q'.toNat:Nat):Int):=by omega
  have hb1:=run_sliceBound (P:=P) (w:=w) k' q' cap (if isSlice then .sliceAcap else .sliceAlen) e3 e2
  have hb2:=run_sliceBound (P:=P) (w:=w) k q q'.toNat .sliceB h0 e4
  simp [Instr.sliceBounds,hy,hy',hb1,hb2]
theorem flat_drop (t:Ty) (xs:List t.den) (k:Nat):flat t (xs.drop k)=(flat t xs).drop (k * t.sz):=by
 induction xs generalizing k with
 | nil=>simp [flat]
 | cons x xs ih =>
  cases k with
  | zero=>simp
  | succ k =>
   rw [List.drop_succ_cons,ih,flat_cons,Nat.add_mul,Nat.one_mul,Nat.add_comm,← List.drop_drop]
   congr 1
   rw [← cells_len t x]
   simp
theorem flat_take (t:Ty) (xs:List t.den) (k:Nat):flat t (xs.take k)=(flat t xs).take (k * t.sz):=by
 induction xs generalizing k with
 | nil=>simp [flat]
 | cons x xs ih =>
  cases k with
  | zero=>simp [flat]
  | succ k =>
   rw [List.take_succ_cons,flat_cons,flat_cons,ih,Nat.add_mul,Nat.one_mul,List.take_append,cells_len,Nat.add_sub_cancel]
   congr 1
   exact (List.take_of_length_le (by rw [cells_len];omega)).symm
theorem RowR.part {ro:Nat->Option (Array Value)} {t:Ty} {xs:List t.den} {vs:Array Value} {o:Nat} (h:RowR ro (flat t xs) vs o) (l m:Nat):RowR ro (flat t ((xs.drop l).take m)) vs (o+l * t.sz):=by
 rw [flat_take,flat_drop]
 intro k c hk
 rw [List.getElem?_take] at hk
 split at hk
 ·rw [List.getElem?_drop] at hk
  have:=h _ c hk
  rwa [← Nat.add_assoc] at this
 ·cases hk
theorem snd_slice0 (h:Rel E w0 M n st a w) (ht:TabOk P E tab) (hd:∀ d,o.dst=some d->d < n) {ty:TypeId} {x:Operand} {lo hi:Option Operand} (ho:o.op=.slice ty x lo hi none) {t:Tr} (htr:trSlice tab st ty x lo hi=some t) (hp:t.pre)
  (hown:∀ id,ev st x ≠ .s (.c (.own id))) (hptr:∀ id,ev st x ≠ .s (.c (.ptr id 0))):Sound P E w0 M n o st a w t:=by
 obtain ⟨g,hg,henv⟩:=h.good
 have hx:=ev_R henv x
 unfold trSlice at htr
 split at htr
 ·rename_i sz by_ s0 l hh hti hl hhi
  split at htr
  ·rename_i s hev
   injection htr with htr
   subst htr
   obtain ⟨h0,h1,h2⟩:=hp
   obtain ⟨inf,d,_,hu,_,_,_,_,hsc⟩:=ht _ _ hti
   have hu:P.underlying ty=some .string:=by rw [hu];exact congrArg some hsc
   refine Sound.plain1 h hd hg henv (by simp [refs_sv]) (v:=.string (s.extract (l.getD 0).toNat (hh.getD s.size).toNat)) ?_ (R_sv rfl)
   have:=run_bounds (P:=P) h hl hhi false s.size s.size (Nat.le_refl _) h0 h1 h2
   simp [execOp,ho,Instr.sliceAt,Instr.slice,(ev_val h hev).1,run_underlying hu,this]
  ·cases htr
 ·rename_i sz by_ rw_ e t' l hh hti hl hhi
  obtain ⟨inf,d,_,hu,_,_,⟨rfl,_⟩,ie,hie,hsz,_⟩:=ht _ _ hti
  replace hx:=wkS_R hx
  split at htr
  ·rename_i t'' xs hev
   split at htr
   ·rename_i ys hcast
    obtain ⟨rfl,hq⟩:=castL_eq hcast
    cases hq
    injection htr with htr
    subst htr
    obtain ⟨h0,h1,h2⟩:=hp
    rw [hev] at hx
    rcases DR.arr_inv hx with ⟨⟨aa,hv⟩,rfl⟩ | ⟨b,off,cap,vs,hv,hro,hle,hcap,hrow,hpm⟩
    ·have hb:=run_bounds (P:=P) h hl hhi true 0 0 (Nat.le_refl _) h0 h1 h2
     simp only [List.length_nil,Int.natCast_zero] at h1 h2
     have e1:(l.getD 0).toNat=0:=by omega
     have e2:(hh.getD 0).toNat=0:=by omega
     simp only [Int.natCast_zero] at hb
     rw [e1,e2] at hb
     refine Sound.plain1 h hd hg henv (by simp [S.refs,S0.refs,CV.refs]) (v:=.slice aa 0 0) ?_ ?_
     ·cases aa <;> simp [execOp,ho,Instr.sliceAt,Instr.slice,hv,run_underlying hu,hb,run_sizeOf hie]
     ·simp only [List.drop_nil,List.take_nil]
      cases aa
      ·exact .nil _
      ·exact .emp _ _
    ·have hb:=run_bounds (P:=P) h hl hhi true xs.length cap hle h0 h1 h2
     have e1:(l.getD 0).toNat<=(hh.getD xs.length).toNat:=by omega
     have e2:(hh.getD xs.length).toNat<=xs.length:=by omega
     have hlen:((xs.drop (l.getD 0).toNat).take ((hh.getD xs.length).toNat - (l.getD 0).toNat)).length=(hh.getD xs.length).toNat - (l.getD 0).toNat:=by simp;omega
     refine Sound.plain1 h hd hg henv (by simp [S.refs,S0.refs,CV.refs])
      (v:=.slice (if cap=(l.getD 0).toNat then some ⟨b,off,none⟩ else some ⟨b,off+(l.getD 0).toNat * ie.size,none⟩) ((hh.getD xs.length).toNat - (l.getD 0).toNat) (cap - (l.getD 0).toNat)) ?_ ?_
     ·simp [execOp,ho,Instr.sliceAt,Instr.slice,hv,run_underlying hu,hb,run_sizeOf hie,Addr.add_lit]
     ·show DR g.ro _ _
      by_cases hc:cap=(l.getD 0).toNat
      ·rw [if_pos hc]
       have h3:(hh.getD xs.length).toNat - (l.getD 0).toNat=0:=by omega
       have:=DR.of_row (ro:=g.ro) (t:=t'') (xs:=[]) (b:=b) (off:=off) (cap:=cap - (l.getD 0).toNat) hro (fun h=>(hpm h).less _) (by simp) (by simp only [maxLen] at hcap ⊢;omega) (by simp [flat];exact RowR.nil)
       rw [h3]
       simpa using this
      ·rw [if_neg hc]
       have:=DR.of_row (ro:=g.ro) (t:=t'') (xs:=(xs.drop (l.getD 0).toNat).take ((hh.getD xs.length).toNat - (l.getD 0).toNat)) (b:=b) (off:=off+(l.getD 0).toNat * t''.sz) (cap:=cap - (l.getD 0).toNat)
        hro (fun h=>(hpm h).shift _ (by omega)) (by rw [hlen];omega) (by simp only [maxLen] at hcap ⊢;omega) (hrow.part _ _)
       rw [hlen] at this
       rw [hsz]
       exact this
   ·cases htr
  ·rename_i id hev
   exact (hown id (wkS_own hev)).elim
  ·cases htr
 ·split at htr
  ·rename_i id hev
   exact (hptr id hev).elim
  ·cases htr
 ·cases htr
end
end Go.SE

namespace Go.SE
variable [Base]
open Go.RowKit
section
variable {P:Program} {E:Ty->TypeId} {tab:TypeId->Option TI} {w0:World} {M:MM} {n:Nat} {o:Oper} {st:St} {a:Act} {w:World}
theorem setAll_get (off:Nat) (k:Nat):∀ (l:List Value) (j:Nat) (cs:Array Value),off+j+l.length<=cs.size ->
  ((l.zipIdx j).foldl (fun cs (p:Value × Nat)=>cs.setIfInBounds (off+p.2) p.1) cs).size=cs.size /\
  ((l.zipIdx j).foldl (fun cs (p:Value × Nat)=>cs.setIfInBounds (off+p.2) p.1) cs)[k]?=if off+j<=k/\k < off+j+l.length then l[k - (off+j)]? else cs[k]?:=by
 intro l
 induction l with
 | nil=>intro j cs h;simp;intro h1 h2;omega
 | cons v l ih =>
  intro j cs h
  simp only [List.length_cons] at h
  have:=ih (j+1) (cs.setIfInBounds (off+j) v) (by simp;omega)
  simp only [List.zipIdx_cons,List.foldl_cons]
  refine ⟨by rw [this.1];simp,?_⟩
  rw [this.2]
  by_cases h1:k=off+j
  ·subst h1
   rw [if_neg (by omega),if_pos (by simp)]
   have:off+j < cs.size:=by omega
   simp [this]
  ·by_cases h2:off+(j+1)<=k/\k < off+(j+1)+l.length
   ·rw [if_pos h2,if_pos (by simp;omega)]
    rw [show k - (off+j)=(k - (off+(j+1)))+1 from by omega,List.getElem?_cons_succ]
   ·rw [if_neg h2,if_neg (by simp;omega)]
    rw [Array.getElem?_setIfInBounds_ne (by omega)]
theorem setAll (cs vs:Array Value) (off:Nat) (h:off+vs.size<=cs.size) :
  vs.zipIdx.foldl (fun cs (p:Value × Nat)=>cs.setIfInBounds (off+p.2) p.1) cs=over cs off vs.toList:=by
 have hl:off+0+vs.toList.length<=cs.size:=by simpa using h
 have key:vs.zipIdx.foldl (fun cs (p:Value × Nat)=>cs.setIfInBounds (off+p.2) p.1) cs=(vs.toList.zipIdx 0).foldl (fun cs (p:Value × Nat)=>cs.setIfInBounds (off+p.2) p.1) cs:=by
  rw [← Array.foldl_toList]
  simp
 rw [key]
 apply Array.ext_getElem?
 intro k
 rw [(setAll_get off k vs.toList 0 cs hl).2,over_get (by simpa using h)]
 simp
theorem putc_len (off:Nat):∀ (vs cs:List CV),(putc cs off vs).length=cs.length:=by
 intro vs
 induction vs generalizing off with
 | nil=>intro cs;rfl
 | cons v l ih=>intro cs;rw [putc,ih];simp
theorem putc_get (k:Nat):∀ (vs:List CV) (off:Nat) (cs:List CV),off+vs.length<=cs.length->(putc cs off vs)[k]?=if off<=k/\k < off+vs.length then vs[k - off]? else cs[k]?:=by
 intro vs
 induction vs with
 | nil=>intro off cs h;simp [putc];intro h1 h2;omega
 | cons v l ih =>
  intro off cs h
  simp only [List.length_cons] at h
  rw [putc,ih (off+1) (cs.set off v) (by simp;omega)]
  by_cases h1:k=off
  ·subst h1
   rw [if_neg (by omega),if_pos (by simp)]
   simp
   rw [List.getElem?_set_self (by omega)]
  ·by_cases h2:off+1<=k/\k < off+1+l.length
   ·rw [if_pos h2,if_pos (by simp;omega)]
    rw [show k - off=(k - (off+1))+1 from by omega,List.getElem?_cons_succ]
   ·rw [if_neg h2,if_neg (by simp;omega)]
    rw [List.getElem?_set_ne (by omega)]
theorem putc_mem {c:CV}:∀ (vs:List CV) (off:Nat) (cs:List CV),c ∈ putc cs off vs->c ∈ cs ∨ c ∈ vs:=by
 intro vs
 induction vs with
 | nil=>intro off cs h;exact .inl h
 | cons v l ih =>
  intro off cs h
  rcases ih (off+1) (cs.set off v) h with h | h
  ·rcases List.mem_or_eq_of_mem_set h with h | h
   ·exact .inl h
   ·exact .inr (by simp [h])
  ·exact .inr (by simp [h])
theorem refsL_putc {id:Nat} {vs:List CV} {off:Nat} {cs:List CV} (h:id ∈ refsL (putc cs off vs)):id ∈ refsL cs ∨ id ∈ refsL vs:=by
 obtain ⟨c,hc,hid⟩:=refsL_mem h
 rcases putc_mem vs off cs hc with h | h
 ·obtain ⟨j,hj⟩:=List.getElem?_of_mem h
  exact .inl (mem_refsL hj hid)
 ·obtain ⟨j,hj⟩:=List.getElem?_of_mem h
  exact .inr (mem_refsL hj hid)
theorem Cells.put {g:G} {cs vs:List CV} {us ws:Array Value} {off:Nat} (hc:Cells g cs us) (hv:Cells g vs ws) (hl:off+vs.length<=cs.length):Cells g (putc cs off vs) (over us off ws.toList):=by
 have hws:ws.toList.length=vs.length:=by simpa using hv.1
 have hfit:off+ws.toList.length<=us.size:=by rw [hws,hc.1];exact hl
 refine ⟨by rw [over_size hfit,hc.1,putc_len],fun j c hj=>?_⟩
 rw [putc_get j vs off cs hl] at hj
 rw [over_get hfit,hws]
 split at hj
 ·rename_i hjj
  rw [if_pos hjj]
  obtain ⟨u,h1,h2⟩:=hv.2 _ c hj
  exact ⟨u,by simpa using h1,h2⟩
 ·rename_i hjj
  rw [if_neg hjj]
  exact hc.2 j c hj
theorem CV.R.one {g:G} {c:CV} (hc:c ≠ .junk) {v:Value} (h:c.R g v):v.oneCell'=true:=by
 cases c with
 | d x=>exact DR.one h
 | nil=>have h:v=_:=h;subst h;rfl
 | own id=>exact h.2
 | ptr id off=>obtain ⟨b,_,h⟩:=h;subst h;rfl
 | vp id t k off=>obtain ⟨b,_,_,_,h⟩:=h;subst h;rfl
 | rp t xs k off=>obtain ⟨b,o,vs,_,_,_,_,h⟩:=h;subst h;rfl
 | rv t xs=>obtain ⟨b,vs,_,_,_,h⟩:=h;subst h;rfl
 | rdr=>have h:v=_:=h;subst h;rfl
 | fn f ids=>have h:v=_:=h;subst h;rfl
 | junk=>exact (hc rfl).elim
theorem partCells_R {g:G} {s:S} {v:Value} (hs:s.R g v) {sz:Nat} {vs:List CV} (h:partCells sz s=some vs) :
  vs.length=sz/\Cells g vs v.cells:=by
 unfold partCells at h
 split at h
 ·cases h
 ·rename_i c hj
  split at h
  ·rename_i h1
   injection h with h
   subst h h1
   have hv:v.cells=#[v]:=by
    have:=CV.R.one (g:=g) (c:=c) (fun e=>hj (by rw [e])) hs
    cases v <;> simp [Value.oneCell'] at this <;> rfl
   refine ⟨rfl,?_⟩
   rw [hv]
   refine ⟨rfl,fun j x hj=>?_⟩
   cases j with
   | zero=>simp at hj;subst hj;exact ⟨v,rfl,hs⟩
   | succ j=>simp at hj
  ·cases h
 ·rename_i cs
  split at h
  ·rename_i h1
   injection h with h
   subst h
   obtain ⟨us,rfl,hc⟩:=hs
   exact ⟨h1,hc⟩
  ·cases h
 ·cases h
theorem zcells_news {base d:Nat}:∀ (cks:List CK) (j:Nat) (p:Nat × Res),p ∈ (zcells base d cks j).2->(∃ i,j<=i/\i < j+cks.length/\p.1=nid base d i)/\∃ t,p.2=.sl p.1 t []:=by
 intro cks
 induction cks with
 | nil=>intro j p h;simp [zcells] at h
 | cons c cks ih =>
  intro j p h
  cases c with
  | sc z =>
   obtain ⟨⟨i,h1,h2,h3⟩,h4⟩:=ih (j+1) p h
   exact ⟨⟨i,by omega,by simp;omega,h3⟩,h4⟩
  | sl t =>
   simp only [zcells,List.mem_cons] at h
   rcases h with h | h
   ·subst h;exact ⟨⟨j,Nat.le_refl _,by simp,rfl⟩,t,rfl⟩
   ·obtain ⟨⟨i,h1,h2,h3⟩,h4⟩:=ih (j+1) p h
    exact ⟨⟨i,by omega,by simp;omega,h3⟩,h4⟩
theorem zcells_refs {base d:Nat}:∀ (cks:List CK) (j:Nat),∀ id ∈ refsL (zcells base d cks j).1,∃ r,(id,r) ∈ (zcells base d cks j).2:=by
 intro cks
 induction cks with
 | nil=>intro j id h;simp [zcells,refsL] at h
 | cons c cks ih =>
  intro j id h
  cases c with
  | sc z =>
   simp only [zcells,refsL,CV.refs,List.nil_append] at h ⊢
   exact ih (j+1) id h
  | sl t =>
   simp only [zcells,refsL,CV.refs,List.mem_append,List.mem_singleton] at h
   rcases h with h | h
   ·subst h;exact ⟨_,by simp only [zcells];exact List.mem_cons_self⟩
   ·obtain ⟨r,hr⟩:=ih (j+1) id h
    exact ⟨r,by simp only [zcells];exact List.mem_cons_of_mem _ hr⟩
theorem zcells_len {base d:Nat}:∀ (cks:List CK) (j:Nat),(zcells base d cks j).1.length=cks.length:=by
 intro cks
 induction cks with
 | nil=>intro j;rfl
 | cons c cks ih=>intro j;cases c <;> simp [zcells,ih]
theorem zcells_R {g:G} {base d:Nat}:∀ (cks:List CK) (j:Nat),(∀ p ∈ (zcells base d cks j).2,g.κ p.1=.slice none 0 0)->(∀ z,CK.sc z ∈ cks->z.oneCell'=true) ->
  ∀ (k:Nat) (c:CV),(zcells base d cks j).1[k]?=some c->∃ u,(cks.map ckv)[k]?=some u/\c.R g u:=by
 intro cks
 induction cks with
 | nil=>intro j _ _ k c h;simp [zcells] at h
 | cons x cks ih =>
  intro j h1 h2 k c h
  cases x with
  | sc z =>
   simp only [zcells] at h h1
   cases k with
   | zero =>
    simp at h
    subst h
    exact ⟨z,rfl,.val z (h2 z (by simp))⟩
   | succ k=>exact ih (j+1) h1 (fun z hz=>h2 z (by simp [hz])) k c (by simpa using h)
  | sl t =>
   simp only [zcells] at h h1
   cases k with
   | zero =>
    simp at h
    subst h
    exact ⟨_,rfl,(h1 _ (List.mem_cons_self)).symm,rfl⟩
   | succ k=>exact ih (j+1) (fun p hp=>h1 p (List.mem_cons_of_mem _ hp)) (fun z hz=>h2 z (by simp [hz])) k c (by simpa using h)
theorem allFree_mem:∀ {l:List (Nat × Res)},allFree st l->∀ p ∈ l,st.mem p.1=none:=by
 intro l
 induction l with
 | nil=>intro _ p h;simp at h
 | cons x l ih =>
  intro h p hp
  rcases List.mem_cons.1 hp with e | hp
  ·subst e;exact h.1
  ·exact ih h.2 p hp
theorem nid_ne {base d i j:Nat} (h:i ≠ j):nid base d i ≠ nid base d j:=by simp [nid];omega
theorem ext_alloc (M:Nat->Prop) (w:World) (ob:Obj):Ext M w (w.alloc ob):=⟨rfl,rfl,rfl,by simp,fun b hb _=>Below.heap_alloc w ob b hb⟩
theorem run_alloc {ty:TypeId} {i:TypeInfo} {z:Value} (hi:P.info? ty=some i) (hz:i.zero=some z) (w:World) :
  (Instr.alloc ty true (.tuple #[])).run P w=.ok (.pointer (some ⟨w.heap.size,0,none⟩)) (w.alloc (.cells z.cells ty)):=by
 simp [Instr.alloc,run_zeroValue hi hz,newVar,newRow]
theorem run_box (ty:TypeId) (v:Value) (w:World):(Instr.box ty v).run P w=.ok (.pointer (some ⟨w.heap.size,0,none⟩)) (w.alloc (.cells v.cells ty)):=by
 simp [Instr.box,newVar,newRow]
theorem heap_new (w:World) (ob:Obj):(w.alloc ob).heap[w.heap.size]?=some ob:=heap_alloc_new w ob
theorem zvals_row (ro:Nat->Option (Array Value)) (t:Ty):∀ (k:Nat) (c:DC),(t.cells t.zero)[k]?=some c->∃ u,t.zvals[k]?=some u/\DR ro c u:=by
 intro k c hk
 refine ⟨zv c,by simp [Ty.zvals,hk],?_⟩
 have hm:=List.mem_of_getElem? hk
 cases t <;> simp [Ty.cells,Ty.zero] at hm <;> (try (rcases hm with rfl | rfl | rfl)) <;> (try subst hm) <;> (try (exact .val _ rfl)) <;> (try (exact .nil _)) <;> (try (exact .fix _ _ _ (.nil _)))
 all_goals (rcases hm with rfl | rfl | rfl | rfl | rfl | rfl | rfl | rfl | rfl | rfl <;> first | exact .val _ rfl | exact .nil _ | exact .ne _ _ _ (.nil _) (fun _=>⟨none,rfl⟩) | exact .fix _ _ _ (.nil _))
theorem zrow (ro:Nat->Option (Array Value)) (t:Ty):∀ (m:Nat) (vs:Array Value),vs.toList=(List.replicate m t.zvals).flatten->vs.size=m * t.sz/\RowR ro (flat t (List.replicate m t.zero)) vs 0:=by
 have zl:t.zvals.length=t.sz:=by simp [Ty.zvals,cells_len]
 have key:∀ (m:Nat),(List.replicate m t.zvals).flatten.length=m * t.sz/\∀ (k:Nat) (c:DC),(flat t (List.replicate m t.zero))[k]?=some c->∃ u,(List.replicate m t.zvals).flatten[k]?=some u/\DR ro c u:=by
  intro m
  induction m with
  | zero=>simp [flat]
  | succ m ih =>
   refine ⟨by rw [List.replicate_succ,List.flatten_cons,List.length_append,ih.1,zl,Nat.add_mul];omega,fun k c hk=>?_⟩
   rw [List.replicate_succ,flat_cons] at hk
   rw [List.replicate_succ,List.flatten_cons]
   by_cases hlt:k < t.sz
   ·rw [List.getElem?_append_left (by rw [cells_len];exact hlt)] at hk
    rw [List.getElem?_append_left (by rw [zl];exact hlt)]
    exact zvals_row ro t k c hk
   ·rw [List.getElem?_append_right (by rw [cells_len];omega),cells_len] at hk
    rw [List.getElem?_append_right (by rw [zl];omega),zl]
    exact ih.2 _ c hk
 intro m vs hvs
 refine ⟨by rw [← Array.length_toList,hvs,(key m).1],fun k c hk=>?_⟩
 obtain ⟨u,h1,h2⟩:=(key m).2 k c hk
 refine ⟨u,?_,h2⟩
 rw [Nat.zero_add,← Array.getElem?_toList,hvs]
 exact h1
theorem snd_alloc (h:Rel E w0 M n st a w) (ht:TabOk P E tab) (hd:∀ d,o.dst=some d->d < n) {ty:TypeId} (ho:o.op=.alloc ty) {t:Tr} (htr:trAlloc tab st ty (o.dst.getD 0)=some t) (hp:t.pre):Sound P E w0 M n o st a w t:=by
 unfold trAlloc at htr
 split at htr
 ·rename_i ti hti
  obtain ⟨i,d,hi,hu,hsz,hk⟩:=ht _ _ hti
  split at htr
  ·rename_i r l hz
   injection htr with htr
   subst htr
   generalize hD:o.dst.getD 0=D at hz hp ⊢
   have hfree:∀ p ∈ (nid st.base D 15,r) :: l,st.mem p.1=none:=allFree_mem hp
   have hbf:st.mem (nid st.base D 15)=none:=hfree _ (List.mem_cons_self)
   have main:∀ (z:Value) (nb:Nat),i.zero=some z->(∀ p ∈ l,p.1 ≠ nid st.base D 15/\∃ f t,p.2=.sl f t [])->(∀ id ∈ r.refs,id=nid st.base D 15 ∨ ∃ q,(id,q) ∈ l) ->
     (∀ g':G,g'.κ (nid st.base D 15)=.pointer (some ⟨w.heap.size,0,none⟩)->g'.ln (nid st.base D 15)=nb->(∀ p ∈ l,g'.κ p.1=.slice none 0 0)->ResR E (w.alloc (.cells z.cells ty)) g' (nid st.base D 15) r) ->
     Sound P E w0 M n o st a w (Tr.one (.s (.c (.ptr (nid st.base D 15) 0))) (allFree st ((nid st.base D 15,r) :: l)) ((nid st.base D 15,r) :: l)):=by
    intro z nb hzero hnil hrefs hres
    refine Sound.make h hd (nid st.base D 15) (.pointer (some ⟨w.heap.size,0,none⟩)) nb (v:=.pointer (some ⟨w.heap.size,0,none⟩)) (w':=w.alloc (.cells z.cells ty)) ?_ (fun M=>ext_alloc M w _) hfree ?_ ?_ ?_ ?_
    ·simp [execOp,ho,run_alloc hi hzero]
    ·intro b hb;simp [blkOf] at hb;omega
    ·intro id hid
     simp [S.refs,S0.refs,CV.refs] at hid
     subst hid
     exact .inr ⟨r,List.mem_cons_self⟩
    ·intro k q hq id hid
     rcases List.mem_cons.1 hq with e | hq
     ·injection e with e1 e2
      subst e2
      rcases hrefs id hid with e0 | ⟨q',hq'⟩
      ·exact .inr ⟨_,by rw [e0];exact List.mem_cons_self⟩
      ·exact .inr ⟨q',List.mem_cons_of_mem _ hq'⟩
     ·obtain ⟨_,f,t,e⟩:=hnil _ hq
      simp only at e
      subst e
      simp [Res.refs] at hid
    ·intro g hg henv g' e1 e2 e3 e4 e5 e6
     have hl:∀ p ∈ l,g'.κ p.1=.slice none 0 0:=fun p hp=>(e6 p.1 (hfree p (List.mem_cons_of_mem _ hp)) (hnil p hp).1).1
     refine ⟨⟨w.heap.size,e4 hbf,rfl⟩,?_⟩
     intro id q hq
     rcases List.mem_cons.1 hq with e | hq
     ·injection e with e7 e8
      subst e7 e8
      exact .inl ⟨rfl,hres g' (e4 hbf) (e5 hbf) hl⟩
     ·exact .inr ⟨(hnil _ hq).1,(hnil _ hq).2⟩
   cases hkk:ti.k with
   | sc z =>
    rw [hkk] at hz hk
    simp only [zeroOf,Option.some.injEq,Prod.mk.injEq] at hz
    obtain ⟨rfl,rfl⟩:=hz
    obtain ⟨hs1,hzero,hone,_⟩:=hk
    refine main z 0 hzero (by simp) (by simp [Res.refs,refsL,CV.refs]) fun g' e4 e5 _=>?_
    have hzc:z.cells=#[z]:=by cases z <;> simp [Value.oneCell'] at hone <;> rfl
    refine ⟨w.heap.size,_,ty,e4,heap_new w _,?_⟩
    rw [hzc]
    refine ⟨rfl,fun j c hj=>?_⟩
    cases j with
    | zero=>simp at hj;subst hj;exact ⟨z,rfl,.val z hone⟩
    | succ j=>simp at hj
   | sl rw_ e t =>
    rw [hkk] at hz hk
    cases rw_ with
    | false=>simp [zeroOf] at hz
    | true =>
     simp only [zeroOf,Option.some.injEq,Prod.mk.injEq] at hz
     obtain ⟨rfl,rfl⟩:=hz
     obtain ⟨_,⟨_,hzero⟩,_⟩:=hk
     refine main (.slice none 0 0) 0 hzero ?_ ?_ fun g' e4 e5 hl=>?_
     ·intro p hp
      simp at hp
      subst hp
      exact ⟨nid_ne (by omega),_,t,rfl⟩
     ·intro id hid
      simp [Res.refs,refsL,CV.refs] at hid
      subst hid
      exact .inr ⟨_,List.mem_singleton.2 rfl⟩
     ·refine ⟨w.heap.size,_,ty,e4,heap_new w _,rfl,fun j c hj=>?_⟩
      cases j with
      | zero=>simp at hj;subst hj;exact ⟨_,rfl,(hl _ (List.mem_singleton.2 rfl)).symm,rfl⟩
      | succ j=>simp at hj
   | bld T =>
    rw [hkk] at hz hk
    simp only [zeroOf,Option.some.injEq,Prod.mk.injEq] at hz
    obtain ⟨rfl,rfl⟩:=hz
    obtain ⟨rfl,_,hzero,_⟩:=hk
    refine main _ 0 hzero ?_ ?_ fun g' e4 e5 hl=>?_
    ·intro p hp
     simp at hp
     subst hp
     exact ⟨nid_ne (by omega),_,.u8,rfl⟩
    ·intro id hid
     simp [Res.refs] at hid
     subst hid
     exact .inr ⟨_,List.mem_singleton.2 rfl⟩
    ·have e:=hl _ (List.mem_singleton.2 rfl)
     exact ⟨w.heap.size,.pointer none,e4,by rw [e];exact heap_new w _,.inl rfl,by rw [e];rfl⟩
   | st cks fs =>
    rw [hkk] at hz hk
    simp only [zeroOf,Option.some.injEq,Prod.mk.injEq] at hz
    obtain ⟨rfl,rfl⟩:=hz
    obtain ⟨fields,zc,rfl,hzero,hzc,⟨hs1,hle,hone⟩,_⟩:=hk
    refine main (.agg zc) 0 hzero ?_ ?_ fun g' e4 e5 hl=>?_
    ·intro p hp
     obtain ⟨⟨i,_,h2,h3⟩,t,h4⟩:=zcells_news cks 0 p hp
     refine ⟨?_,p.1,t,h4⟩
     rw [h3]
     exact nid_ne (by omega)
    ·intro id hid
     exact .inr (zcells_refs cks 0 id hid)
    ·refine ⟨w.heap.size,_,ty,e4,heap_new w _,?_⟩
     refine ⟨?_,fun j c hj=>?_⟩
     ·show zc.size=_
      rw [← Array.length_toList,hzc,zcells_len,List.length_map]
     ·obtain ⟨u,h1,h2⟩:=zcells_R cks 0 hl hone j c hj
      refine ⟨u,?_,h2⟩
      show zc[j]?=_
      rw [← Array.getElem?_toList,hzc]
      exact h1
   | ar m e t =>
    rw [hkk] at hz hk
    simp only [zeroOf,Option.some.injEq,Prod.mk.injEq] at hz
    obtain ⟨rfl,rfl⟩:=hz
    obtain ⟨rfl,_,ie,zc,hie,hisz,hzero,hzc,_⟩:=hk
    refine main (.agg zc) m hzero (by simp) (by simp [Res.refs]) fun g' e4 e5 _=>?_
    obtain ⟨h1,h2⟩:=zrow g'.ro t m zc hzc
    exact ⟨by simp [e5],w.heap.size,zc,ty,e4,heap_new w _,by simpa using h1,h2⟩
  ·cases htr
 ·cases htr
end
end Go.SE

namespace Go.SE
variable [Base]
open Go.RowKit
section
variable {P:Program} {E:Ty->TypeId} {tab:TypeId->Option TI} {w0:World} {M:MM} {n:Nat} {o:Oper} {st:St} {a:Act} {w:World}
theorem cells_one {v:Value} (h:v.oneCell'=true):v.cells=#[v]:=by
 cases v <;> simp [Value.oneCell'] at h <;> rfl
theorem snd_box (h:Rel E w0 M n st a w) (hd:∀ d,o.dst=some d->d < n) {ty:TypeId} {x:Operand} (ho:o.op=.box ty x) {t:Tr} (htr:trBox st (o.dst.getD 0) x=some t) (hp:t.pre):Sound P E w0 M n o st a w t:=by
 generalize hD:o.dst.getD 0=D at htr
 have main:∀ (r:Res) (nb:Nat) ,(r.refs=(ev st x).refs)->st.mem (nid st.base D 15)=none ->
   (∀ g,(∀ x,(st.env x).R g (a.tmps.getD x undef))->∀ g':G,g'.ro=g.ro->g'.ρ=g.ρ->(∀ id,(st.mem id).isSome=true->g'.κ id=g.κ id/\g'.ln id=g.ln id)->g'.κ (nid st.base D 15)=.pointer (some ⟨w.heap.size,0,none⟩)->g'.ln (nid st.base D 15)=nb ->
    ResR E (w.alloc (.cells (a.eval x).cells ty)) g' (nid st.base D 15) r) ->
   Sound P E w0 M n o st a w (Tr.one (.s (.c (.ptr (nid st.base D 15) 0))) (free st D 15) [(nid st.base D 15,r)]):=by
  intro r nb hrefs hbf hres
  refine Sound.make h hd (nid st.base D 15) (.pointer (some ⟨w.heap.size,0,none⟩)) nb (v:=.pointer (some ⟨w.heap.size,0,none⟩)) (w':=w.alloc (.cells (a.eval x).cells ty)) ?_ (fun M=>ext_alloc M w _) ?_ ?_ ?_ ?_ ?_
  ·simp [execOp,ho,run_box]
  ·intro p hpm;simp at hpm;subst hpm;exact hbf
  ·intro b hb;simp [blkOf] at hb;omega
  ·intro id hid
   simp [S.refs,S0.refs,CV.refs] at hid
   subst hid
   exact .inr ⟨r,List.mem_singleton.2 rfl⟩
  ·intro k q hq id hid
   simp at hq
   obtain ⟨_,rfl⟩:=hq
   rw [hrefs] at hid
   exact .inl (ev_refs h.cl x id hid)
  ·intro g hg henv g' e1 e2 e3 e4 e5 e6
   refine ⟨⟨w.heap.size,e4 hbf,rfl⟩,?_⟩
   intro id q hq
   simp at hq
   obtain ⟨rfl,rfl⟩:=hq
   exact .inl ⟨rfl,hres g henv g' e1 e2 e3 (e4 hbf) (e5 hbf)⟩
 have mono:∀ {g g':G},g'.ro=g.ro->g'.ρ=g.ρ->(∀ id,(st.mem id).isSome=true->g'.κ id=g.κ id/\g'.ln id=g.ln id)->(∀ x,(st.env x).R g (a.tmps.getD x undef))->(ev st x).R g' (a.eval x):=by
  intro g g' e1 e2 e3 henv
  exact (ev_R henv x).mono (by rw [e1];exact fun _ _ h=>h) e2 fun id hid=>e3 id (ev_refs h.cl x id hid)
 unfold trBox at htr
 split at htr
 ·cases htr
 ·rename_i v hnj hev
  injection htr with htr
  subst htr
  refine main (.blk [v]) 0 ?_ hp ?_
  ·simp [hev,Res.refs,refsL,S.refs,S0.refs]
  ·intro g henv g' e1 e2 e3 e4 e5
   have hx:=mono e1 e2 e3 henv
   rw [hev] at hx
   have hone:=CV.R.one (c:=v) hnj hx
   have hzc:(a.eval x).cells=#[a.eval x]:=cells_one hone
   refine ⟨w.heap.size,_,ty,e4,heap_new w _,?_⟩
   rw [hzc]
   refine ⟨rfl,fun j c hj=>?_⟩
   cases j with
   | zero=>simp at hj;subst hj;exact ⟨_,rfl,hx⟩
   | succ j=>simp at hj
 ·rename_i vs hev
  injection htr with htr
  subst htr
  refine main (.blk vs) 0 ?_ hp ?_
  ·simp [hev,Res.refs,S.refs,S0.refs]
  ·intro g henv g' e1 e2 e3 e4 e5
   have hx:=mono e1 e2 e3 henv
   rw [hev] at hx
   obtain ⟨us,hv,hc⟩:=hx
   refine ⟨w.heap.size,_,ty,e4,heap_new w _,?_⟩
   rw [hv]
   exact hc
 ·rename_i t' xs hev
  injection htr with htr
  subst htr
  refine main (.vec t' xs) xs.length ?_ hp ?_
  ·simp [hev,Res.refs,S.refs,S0.refs]
  ·intro g henv g' e1 e2 e3 e4 e5
   have hx:=mono e1 e2 e3 henv
   rw [hev] at hx
   obtain ⟨us,hv,hsz,hrow⟩:=hx
   refine ⟨e5,w.heap.size,_,ty,e4,heap_new w _,?_,?_⟩
   ·rw [hv];exact hsz
   ·rw [hv];exact hrow
 ·cases htr
theorem places_of {fs:List (Nat × Nat × Bool)}:∀ (l:List Field),l.length=fs.length->(∀ (j:Nat) x,fs[j]?=some x->∃ fd i,l[j]?=some fd/\fd.offset=x.1/\P.info? fd.type=some i/\i.size=x.2.1) ->
  l.mapM (fun f=>(P.info? f.type).map fun i=>(f.offset,i.size))=some (fs.map fun x=>(x.1,x.2.1)):=by
 induction fs with
 | nil=>intro l hl _;have:l=[]:=List.eq_nil_of_length_eq_zero (by simpa using hl);subst this;rfl
 | cons x fs ih =>
  intro l hl h
  cases l with
  | nil=>simp at hl
  | cons fd l =>
   obtain ⟨fd',i,h1,h2,h3,h4⟩:=h 0 x rfl
   simp at h1
   subst h1
   have:=ih l (by simpa using hl) fun j x hx=>by simpa using h (j+1) x (by simpa using hx)
   simp [List.mapM_cons,h3,this,h2,h4]
theorem fill_step {place:Nat->Option (Nat × Nat)} {cells:Array Value} {i:Nat} {v:Value} {rest:List (Nat × Value)} {off sz:Nat} (hpl:place i=some (off,sz)) (hs:v.cells.size=sz) (hl:off+sz<=cells.size) :
  Instr.fill place cells ((i,v) :: rest)=Instr.fill place (over cells off v.cells.toList) rest:=by
 have h1:¬ (v.cells.size ≠ sz ∨ off+v.cells.size > cells.size):=by omega
 rw [Instr.fill,hpl]
 simp only [hs,ne_eq,not_true_eq_false,decide_false,Bool.false_or,decide_eq_true_eq]
 rw [if_neg (by simp;omega)]
 congr 1
 exact setAll cells v.cells off (by omega)
theorem fills_R {g:G} (henv:∀ x,(st.env x).R g (a.tmps.getD x undef)) {fs:List (Nat × Nat × Bool)}:∀ (ps:List (Nat × Operand)) (cs cs':List CV) (us:Array Value),fills st fs cs ps=some cs'->Cells g cs us ->
  ∃ us',Instr.fill ((fs.map fun x=>(x.1,x.2.1)).toArray[·]?) us (ps.map fun p=>(p.1,a.eval p.2))=some us'/\Cells g cs' us':=by
 intro ps
 induction ps with
 | nil=>intro cs cs' us h hc;simp only [fills,Option.some.injEq] at h;subst h;exact ⟨us,rfl,hc⟩
 | cons p ps ih =>
  intro cs cs' us h hc
  obtain ⟨i,x⟩:=p
  simp only [fills] at h
  split at h
  ·rename_i off sz b hf
   split at h
   ·rename_i vs hv
    split at h
    ·rename_i hle
     obtain ⟨h1,h2⟩:=partCells_R (ev_R henv x) hv
     have h3:=hc.put h2 hle
     obtain ⟨us',h4,h5⟩:=ih _ _ _ h h3
     refine ⟨us',?_,h5⟩
     rw [List.map_cons,fill_step (off:=off) (sz:=sz) (by simp [hf]) (by rw [h2.1,h1]) (by rw [hc.1,← h1];exact hle)]
     exact h4
    ·cases h
   ·cases h
  ·cases h
theorem fills_refs:∀ {fs:List (Nat × Nat × Bool)} (ps:List (Nat × Operand)) (cs cs':List CV),Cl st->fills st fs cs ps=some cs'->∀ id ∈ refsL cs',id ∈ refsL cs ∨ (st.mem id).isSome=true:=by
 intro fs ps
 induction ps with
 | nil=>intro cs cs' _ h id hid;simp only [fills,Option.some.injEq] at h;subst h;exact .inl hid
 | cons p ps ih =>
  intro cs cs' hcl h id hid
  obtain ⟨i,x⟩:=p
  simp only [fills] at h
  split at h
  ·rename_i off sz b hf
   split at h
   ·rename_i vs hv
    split at h
    ·rcases ih _ _ hcl h id hid with h1 | h1
     ·rcases refsL_putc h1 with h2 | h2
      ·exact .inl h2
      ·refine .inr (ev_refs hcl x id ?_)
       unfold partCells at hv
       split at hv
       ·cases hv
       ·rename_i v hnj he
        split at hv
        ·injection hv with hv;subst hv;rw [he];simpa [refsL,S.refs,S0.refs] using h2
        ·cases hv
       ·rename_i v he
        split at hv
        ·injection hv with hv;subst hv;rw [he];exact h2
        ·cases hv
       ·cases hv
     ·exact .inr h1
    ·cases h
   ·cases h
  ·cases h
theorem dec_cells {t:Ty} {ds:List DC} {x:t.den} (h:t.dec ds=some x):t.cells x=ds:=by
 unfold Ty.dec at h
 split at h
 case h_3 n =>
  split at h
  ·rename_i hn
   injection h with h
   subst h
   have e:((UInt8.ofNat n.toNat).toNat:Int)=n:=by
    have:n.toNat < 256:=by omega
    simp [UInt8.toNat_ofNat',Nat.mod_eq_of_lt this]
    omega
   show [DC.val (Value.int .u8 _)]=_
   rw [e]
  ·cases h
 case h_12=>cases h
 case h_11=>cases h;rfl
 all_goals (injection h with h;subst h;rfl)
theorem datas_R {g:G} {mem:Nat->Option Res} {ro':Nat->Option (Array Value)} (hro:∀ b vs,g.ro b=some vs->ro' b=some vs):∀ (vs:List CV) (ds:List DC) (ids:List Nat),datas mem vs=some (ds,ids) ->
  (∀ id ∈ ids,∀ f t xs,mem id=some (.sl f t xs)->DR ro' (ownDC t xs) (g.κ id)) ->
  ∀ (us:Nat->Option Value),(∀ (j:Nat) (c:CV),vs[j]?=some c->∃ u,us j=some u/\c.R g u)->ds.length=vs.length/\∀ (k:Nat) (c:DC),ds[k]?=some c->∃ u,us k=some u/\DR ro' c u:=by
 intro vs
 induction vs with
 | nil=>intro ds ids h _ us _;simp only [datas,Option.some.injEq,Prod.mk.injEq] at h;obtain ⟨rfl,rfl⟩:=h;simp
 | cons v vs ih =>
  intro ds ids h hfz us hus
  simp only [datas] at h
  split at h
  ·cases h
  ·rename_i ds' ids' hd
   obtain ⟨u0,h0,h1⟩:=hus 0 v rfl
   have tail:∀ (j:Nat) (c:CV),vs[j]?=some c->∃ u,us (j+1)=some u/\c.R g u:=fun j c hj=>hus (j+1) c (by simpa using hj)
   split at h
   ·rename_i x
    simp only [Option.some.injEq,Prod.mk.injEq] at h
    obtain ⟨rfl,rfl⟩:=h
    obtain ⟨h2,h3⟩:=ih ds' ids' hd hfz (fun j=>us (j+1)) tail
    refine ⟨by simp [h2],fun k c hk=>?_⟩
    cases k with
    | zero=>simp at hk;subst hk;exact ⟨u0,h0,DR.mono hro h1⟩
    | succ k=>exact h3 k c (by simpa using hk)
   ·rename_i id
    split at h
    ·rename_i f t xs hm
     simp only [Option.some.injEq,Prod.mk.injEq] at h
     obtain ⟨rfl,rfl⟩:=h
     obtain ⟨h2,h3⟩:=ih ds' ids' hd (fun i hi=>hfz i (by simp [hi])) (fun j=>us (j+1)) tail
     refine ⟨by simp [h2],fun k c hk=>?_⟩
     cases k with
     | zero=>simp at hk;subst hk;exact ⟨u0,h0,by rw [h1.1];exact hfz id (by simp) _ _ _ hm⟩
     | succ k=>exact h3 k c (by simpa using hk)
    ·cases h
   ·cases h
theorem elemOf_R {g:G} {mem:Nat->Option Res} {ro':Nat->Option (Array Value)} (hro:∀ b vs,g.ro b=some vs->ro' b=some vs) {t:Ty} {s:S} {x:t.den} {ids:List Nat} (h:elemOf mem t s=some (x,ids))
  (hfz:∀ id ∈ ids,∀ f t xs,mem id=some (.sl f t xs)->DR ro' (ownDC t xs) (g.κ id)) {v:Value} (hs:s.R g v):v.cells.size=t.sz/\RowR ro' (t.cells x) v.cells 0:=by
 unfold elemOf at h
 split at h
 ·rename_i vs hv
  split at h
  ·rename_i ds ids' hd
   split at h
   ·rename_i y hy
    simp only [Option.some.injEq,Prod.mk.injEq] at h
    obtain ⟨rfl,rfl⟩:=h
    obtain ⟨h1,h2⟩:=partCells_R hs hv
    obtain ⟨h3,h4⟩:=datas_R hro vs ds ids' hd hfz (fun j=>v.cells[j]?) h2.2
    refine ⟨by rw [h2.1,h1],?_⟩
    rw [dec_cells hy]
    intro k c hk
    rw [List.getElem?_map,Option.map_eq_some_iff] at hk
    obtain ⟨c',hk,rfl⟩:=hk
    obtain ⟨u,hu,hd⟩:=h4 k c' hk
    exact ⟨u,by simpa using hu,hd.wk⟩
   ·cases h
  ·cases h
 ·cases h
theorem datas_refs {mem:Nat->Option Res}:∀ (vs:List CV) (ds:List DC) (ids:List Nat),datas mem vs=some (ds,ids)->∀ id ∈ ids,∃ f t xs,mem id=some (.sl f t xs):=by
 intro vs
 induction vs with
 | nil=>intro ds ids hd;simp only [datas,Option.some.injEq,Prod.mk.injEq] at hd;obtain ⟨_,rfl⟩:=hd;intro id hid;simp at hid
 | cons v vs ih =>
  intro ds ids hd
  simp only [datas] at hd
  split at hd
  ·cases hd
  ·rename_i ds' ids2 hd'
   split at hd
   ·simp only [Option.some.injEq,Prod.mk.injEq] at hd
    obtain ⟨_,rfl⟩:=hd
    exact ih _ _ hd'
   ·rename_i id0
    split at hd
    ·rename_i f t' xs hm
     simp only [Option.some.injEq,Prod.mk.injEq] at hd
     obtain ⟨_,rfl⟩:=hd
     intro id hid
     rcases List.mem_cons.1 hid with rfl | hid
     ·exact ⟨f,t',xs,hm⟩
     ·exact ih _ _ hd' id hid
    ·cases hd
   ·cases hd
theorem elemOf_refs {mem:Nat->Option Res} {t:Ty} {s:S} {x:t.den} {ids:List Nat} (h:elemOf mem t s=some (x,ids)):∀ id ∈ ids,∃ f t xs,mem id=some (.sl f t xs):=by
 unfold elemOf at h
 split at h
 ·rename_i vs hv
  split at h
  ·rename_i ds ids' hd
   split at h
   ·simp only [Option.some.injEq,Prod.mk.injEq] at h
    obtain ⟨_,rfl⟩:=h
    exact datas_refs vs ds ids' hd
   ·cases h
  ·cases h
 ·cases h
theorem elems_refs {t:Ty}:∀ (ps:List (Nat × Operand)) (k:Nat) (xs:List t.den) (ids:List Nat),elemsOf st t k ps=some (xs,ids)->∀ id ∈ ids,∃ f t xs,st.mem id=some (.sl f t xs):=by
 intro ps
 induction ps with
 | nil=>intro k xs ids h id hid;simp only [elemsOf,Option.some.injEq,Prod.mk.injEq] at h;obtain ⟨_,rfl⟩:=h;simp at hid
 | cons p ps ih =>
  intro k xs ids h id hid
  obtain ⟨i,x⟩:=p
  simp only [elemsOf] at h
  split at h
  ·split at h
   ·rename_i y A ys B h1 h2
    simp only [Option.some.injEq,Prod.mk.injEq] at h
    obtain ⟨_,rfl⟩:=h
    rcases List.mem_append.1 hid with hid | hid
    ·rcases elemX_inv h1 with h1 | ⟨rfl,_⟩
     ·exact elemOf_refs h1 id hid
     ·cases hid
    ·exact ih _ _ _ h2 id hid
   ·cases h
  ·cases h
theorem elems_R {g:G} {ro':Nat->Option (Array Value)} (hro:∀ b vs,g.ro b=some vs->ro' b=some vs) (henv:∀ x,(st.env x).R g (a.tmps.getD x undef)) {t:Ty}:∀ (ps:List (Nat × Operand)) (k:Nat) (xs:List t.den) (ids:List Nat) (us:Array Value),
  elemsOf st t k ps=some (xs,ids)->(∀ id ∈ ids,∀ f t xs,st.mem id=some (.sl f t xs)->DR ro' (ownDC t xs) (g.κ id))->(k+xs.length) * t.sz<=us.size ->
  ∃ us',Instr.fill (fun i=>some (i * t.sz,t.sz)) us (ps.map fun p=>(p.1,a.eval p.2))=some us'/\us'.size=us.size/\RowR ro' (flat t xs) us' (k * t.sz)/\(∀ j,j < k * t.sz ∨ (k+xs.length) * t.sz<=j->us'[j]?=us[j]?):=by
 intro ps
 induction ps with
 | nil =>
  intro k xs ids us h _ _
  simp only [elemsOf,Option.some.injEq,Prod.mk.injEq] at h
  obtain ⟨rfl,rfl⟩:=h
  exact ⟨us,rfl,rfl,by simp [flat];exact RowR.nil,fun _ _=>rfl⟩
 | cons p ps ih =>
  intro k xs ids us h hfz hle
  obtain ⟨i,x⟩:=p
  simp only [elemsOf] at h
  split at h
  ·rename_i hik
   subst hik
   split at h
   ·rename_i y A ys B h1 h2
    simp only [Option.some.injEq,Prod.mk.injEq] at h
    obtain ⟨rfl,rfl⟩:=h
    simp only [List.length_cons] at hle
    obtain ⟨hcs,hrow⟩:(a.eval x).cells.size=t.sz/\RowR ro' (t.cells y) (a.eval x).cells 0:=by
     rcases elemX_inv h1 with h1 | ⟨_,rfl,cs,rfl,hcs⟩
     ·exact elemOf_R hro h1 (fun id hid=>hfz id (by simp [hid])) (ev_R henv x)
     ·have e:(a.eval (.const (.agg cs))).cells=cs:=rfl
      rw [e]
      refine ⟨by rw [← Array.length_toList,hcs];simp [Ty.zvals,cells_len],fun k c hk=>?_⟩
      obtain ⟨u,hu,hd⟩:=zvals_row ro' t k c hk
      exact ⟨u,by rw [Nat.zero_add,← Array.getElem?_toList,hcs];exact hu,hd⟩
    have hm1:(i+(ys.length+1)) * t.sz=i * t.sz+t.sz+ys.length * t.sz:=by rw [Nat.add_mul,Nat.add_mul];omega
    have hm2:(i+1+ys.length) * t.sz=i * t.sz+t.sz+ys.length * t.sz:=by rw [Nat.add_mul,Nat.add_mul];omega
    have hm3:(i+1) * t.sz=i * t.sz+t.sz:=by rw [Nat.add_mul];omega
    have hfit:i * t.sz+(a.eval x).cells.toList.length<=us.size:=by rw [Array.length_toList,hcs];omega
    obtain ⟨us',e1,e2,e3,e4⟩:=ih (i+1) ys B (over us (i * t.sz) (a.eval x).cells.toList) h2 (fun id hid=>hfz id (by simp [hid])) (by rw [over_size hfit];omega)
    refine ⟨us',?_,by rw [e2,over_size hfit],?_,?_⟩
    ·rw [List.map_cons,fill_step (off:=i * t.sz) (sz:=t.sz) rfl hcs (by omega)]
     exact e1
    ·rw [flat_cons]
     refine RowR.append ?_ (by rw [cells_len,← hm3];exact e3)
     intro j c hj
     have hjl:j < t.sz:=by have:=(List.getElem?_eq_some_iff.1 hj).1;rwa [cells_len] at this
     obtain ⟨u,hu,hd⟩:=hrow j c hj
     refine ⟨u,?_,hd⟩
     rw [e4 _ (by omega),over_get hfit,if_pos (by rw [Array.length_toList,hcs];omega)]
     rw [show i * t.sz+j - i * t.sz=j from by omega]
     simpa using hu
    ·intro j hj
     simp only [List.length_cons] at hj
     rw [e4 j (by omega),over_get hfit,if_neg (by rw [Array.length_toList,hcs];omega)]
   ·cases h
  ·cases h
end
end Go.SE

namespace Go.SE
variable [Base]
open Go.RowKit
section
variable {P:Program} {E:Ty->TypeId} {tab:TypeId->Option TI} {w0:World} {M:MM} {n:Nat} {o:Oper} {st:St} {a:Act} {w:World}
theorem sets_get (f:Nat->Bool):∀ (l:List Nat) (k:Nat),sets f l k=(f k || l.contains k):=by
 intro l
 induction l generalizing f with
 | nil=>intro k;simp [sets]
 | cons x l ih =>
  intro k
  rw [sets,ih]
  by_cases e:k=x
  ·subst e;simp [upd]
  ·have:(x == k)=false:=by simp;exact fun h=>e h.symm
   simp [upd,e]
theorem Good.freeze1 {g:G} (h:Good E w0 M g st w) {id f:Nat} {t:Ty} {xs:List t.den} (hm:st.mem id=some (.sl f t xs)) (hs:st.sp id=false) :
  ∃ ro',(∀ b vs,g.ro b=some vs->ro' b=some vs)/\DR ro' (ownDC t xs) (g.κ id)/\Good E w0 M { g with ro:=ro' } { st with fr:=upd st.fr id true } w:=by
 obtain ⟨hln,hres⟩:=h.res _ _ hm
 rcases hres with ⟨hκ,hx⟩ | ⟨b,cap,cur,hκ,hb,hle,hcap,hcs,hrow⟩
 ·refine ⟨g.ro,fun _ _ h=>h,by rw [hκ,hx];exact DR.own (.nil t) (fun _ _=>⟨_,rfl⟩),h.ext,h.ro,h.res,h.sep,h.fresh,?_,h.rd,h.rds,h.roo,h.rho,h.pin,h.keep⟩
  intro i r hi hl b hb h1 h2
  by_cases e:i=id
  ·subst e;rw [hκ] at hb;simp [blkOf] at hb
  ·exact h.wro i r hi hl b hb h1 (by simpa [upd,e] using h2)
 ·have hbk:blkOf (g.κ id)=some b:=by rw [hκ];rfl
  have hro:∀ b' vs,g.ro b'=some vs->(fun b'=>if b'=b then some cur else g.ro b') b'=some vs:=by
   intro b' vs hv
   by_cases e:b'=b
   ·subst e
    obtain ⟨ty,fz,hh,hq_⟩:=h.ro _ _ hv
    rw [hb] at hh
    simp at hh
    simp [hh.1]
   ·simp [e,hv]
  refine ⟨fun b'=>if b'=b then some cur else g.ro b',hro,?_,h.ext,?_,?_,h.sep,h.fresh,?_,?_,h.rds,fun b' vs hv=>?_,h.rho,h.pin,⟨h.keep.1,fun b vs hv=>hro b vs (h.keep.2 b vs hv)⟩⟩
  ·rw [hκ]
   refine DR.own (DR.of_row (vs:=cur) (by simp) (fun _=>⟨h.nb hm trivial hbk,fun ht=>⟨rfl,hcap.ko ht,by subst ht;rw [Nat.zero_add];exact Nat.le_of_eq hcs.symm⟩⟩) hle hcap.le (hrow.mono hro)) (fun ht hx=>?_)
   have hn:xs.length=0:=by rw [hx];rfl
   exact ⟨some ⟨b,0,none⟩,by rw [hcap.tight ht hn,hn]⟩
  ·intro b' vs hv
   by_cases e:b'=b
   ·subst e
    simp at hv
    subst hv
    exact ⟨_,_,hb,fun _=>rfl⟩
   ·simp [e] at hv
    exact h.ro b' vs hv
  ·intro i r hi
   exact (h.res i r hi).keep (g':={ g with ro:=fun b'=>if b'=b then some cur else g.ro b' }) (fun _ _=>rfl) hro rfl ⟨rfl,rfl⟩ fun _ _=>⟨rfl,rfl⟩
  ·intro i r hi hl b' hb' h1 h2
   by_cases e:i=id
   ·subst e;simp [upd] at h2
   ·have h3:=h.wro i r hi hl b' hb' h1 (by simpa [upd,e] using h2)
    by_cases e':b'=b
    ·subst e'
     obtain ⟨_,_,_,_,_,_,h4⟩:=h.sep id i _ r hm hi (Ne.symm e) trivial hl b' hbk hb'
     have:=(h4 hs).1
     simp only at h1
     rw [h1] at this
     cases this
    ·simpa [e'] using h3
  ·intro m hmr
   obtain ⟨⟨hlim,hout,code,v,p,ty,hc,hd,hrest⟩,hin,hno⟩:=h.rd m hmr
   have hne:g.ρ ≠ b:=fun e=>hno id _ hm trivial (by rw [hbk,e])
   exact ⟨⟨hlim,by simp [hne,hout],code,v,p,ty,hc,hd.mono hro,hrest⟩,hin,hno⟩
  ·by_cases e:b'=b
   ·subst e;exact .inr (h.fresh id _ hm trivial _ hbk)
   ·simp [e] at hv;exact h.roo b' vs hv
theorem Good.freeze:∀ (ids:List Nat) {g:G} {st:St},Good E w0 M g st w->(∀ id ∈ ids,st.sp id=false/\∃ f t xs,st.mem id=some (.sl f t xs)) ->
  ∃ ro',(∀ b vs,g.ro b=some vs->ro' b=some vs)/\(∀ id ∈ ids,∀ f t xs,st.mem id=some (.sl f t xs)->DR ro' (ownDC t xs) (g.κ id))/\Good E w0 M { g with ro:=ro' } { st with fr:=sets st.fr ids } w:=by
 intro ids
 induction ids with
 | nil=>intro g st h _;exact ⟨g.ro,fun _ _ h=>h,by simp,h⟩
 | cons id ids ih =>
  intro g st h hids
  obtain ⟨hs,f,t,xs,hm⟩:=hids id (by simp)
  obtain ⟨ro1,h1,h2,h3⟩:=h.freeze1 hm hs
  obtain ⟨ro2,h4,h5,h6⟩:=ih h3 fun i hi=>hids i (by simp [hi])
  refine ⟨ro2,fun b vs hv=>h4 b vs (h1 b vs hv),?_,h6⟩
  intro i hi f' t' xs' hm'
  rcases List.mem_cons.1 hi with rfl | hi
  ·rw [hm] at hm'
   injection hm' with hm'
   injection hm' with e1 e2 e3
   subst e2
   cases e3
   exact h2.mono h4
  ·exact h5 i hi f' t' xs' hm'
theorem notSpent_mem:∀ {ids:List Nat},notSpent st ids->∀ id ∈ ids,st.sp id=false:=by
 intro ids
 induction ids with
 | nil=>intro _ id h;simp at h
 | cons x l ih =>
  intro h id hid
  rcases List.mem_cons.1 hid with rfl | hid
  ·exact h.1
  ·exact ih h.2 id hid
theorem snd_build (h:Rel E w0 M n st a w) (ht:TabOk P E tab) (hd:∀ d,o.dst=some d->d < n) {ty:TypeId} {ps:Array (Nat × Operand)} (ho:o.op=.build ty ps) {t:Tr} (htr:trBuild tab st ty (o.dst.getD 0) ps.toList=some t) (hp:t.pre) :
  Sound P E w0 M n o st a w t:=by
 generalize hD:o.dst.getD 0=D at htr
 have hparts:(ps.map fun (i,x)=>(i,a.eval x)).toList=ps.toList.map fun p=>(p.1,a.eval p.2):=by simp
 unfold trBuild at htr
 split at htr
 ·rename_i sz by_ cks fs hti
  obtain ⟨i,d,hi,hu,hsz,fields,zc,rfl,hzero,hzc,⟨hs1,hle,hone⟩,hfl,hfo,_⟩:=ht _ _ hti
  split at htr
  ·rename_i cs hcs
   injection htr with htr
   subst htr
   have hfree:∀ p ∈ (zcells st.base D cks 0).2,st.mem p.1=none:=allFree_mem hp
   -- the run
   have hpl:fields.toList.mapM (fun f=>(P.info? f.type).map fun i=>(f.offset,i.size))=some (fs.map fun x=>(x.1,x.2.1)) :=
    places_of fields.toList (by simpa using hfl) fun j x hx=>by
     obtain ⟨fd,i,d,h1,h2,h3,h4,_⟩:=fieldsOk_get hfo hx
     simp only [Nat.zero_add] at h1
     exact ⟨fd,i,by simpa using h1,h2,h3,h4⟩
   have run:∀ us,Instr.fill ((fs.map fun x=>(x.1,x.2.1)).toArray[·]?) zc (ps.toList.map fun p=>(p.1,a.eval p.2))=some us->(execOp a.eval o).run P w=.ok (.value (.agg us)) w:=by
    intro us hus
    have hb:P.built ty (ps.map fun (i,x)=>(i,a.eval x)).toList=some us:=by
     unfold Program.built
     simp only [hi,hu,hzero,hpl]
     rw [hparts]
     exact hus
    have:=run_build (P:=P) w ty (ps.map fun (i,x)=>(i,a.eval x)) us hb
    simp [execOp,ho,this]
   obtain ⟨g0,hg0,henv0⟩:=h.good
   -- the value does not depend on how the new slices are numbered
   have val:∃ us,Instr.fill ((fs.map fun x=>(x.1,x.2.1)).toArray[·]?) zc (ps.toList.map fun p=>(p.1,a.eval p.2))=some us /\
     ∀ g':G,(∀ x,(st.env x).R g' (a.tmps.getD x undef))->(∀ p ∈ (zcells st.base D cks 0).2,g'.κ p.1=.slice none 0 0)->Cells g' cs us:=by
    have mk:∀ g':G,(∀ x,(st.env x).R g' (a.tmps.getD x undef))->(∀ p ∈ (zcells st.base D cks 0).2,g'.κ p.1=.slice none 0 0) ->
      ∃ us,Instr.fill ((fs.map fun x=>(x.1,x.2.1)).toArray[·]?) zc (ps.toList.map fun p=>(p.1,a.eval p.2))=some us/\Cells g' cs us:=by
     intro g' he hn
     refine fills_R he ps.toList _ cs zc hcs ⟨?_,fun j c hj=>?_⟩
     ·rw [← Array.length_toList,hzc,zcells_len,List.length_map]
     ·obtain ⟨u,h1,h2⟩:=zcells_R cks 0 hn hone j c hj
      exact ⟨u,by rw [← Array.getElem?_toList,hzc];exact h1,h2⟩
    obtain ⟨us,h1,_⟩:=mk { g0 with κ:=fun j=>if (st.mem j).isSome then g0.κ j else .slice none 0 0 }
     (fun x=>S.R.mono (g:=g0) (g':={ g0 with κ:=fun j=>if (st.mem j).isSome then g0.κ j else .slice none 0 0 }) (fun _ _ h=>h) rfl (fun id hid=>⟨by simp [h.cl.1 x id hid],rfl⟩) (henv0 x)) (fun p hp=>by simp [hfree p hp])
    refine ⟨us,h1,fun g' he hn=>?_⟩
    obtain ⟨us',h1',h2'⟩:=mk g' he hn
    rw [h1] at h1'
    injection h1' with h1'
    subst h1'
    exact h2'
   obtain ⟨us,hus,hval⟩:=val
   refine Sound.make h hd (nid st.base D 15) (.slice none 0 0) 0 (v:=.agg us) (w':=w) (run us hus) (fun M=>Ext.refl M w) hfree ?_ ?_ ?_ ?_
   ·intro b hb;simp [blkOf] at hb
   ·intro id hid
    rcases fills_refs ps.toList _ cs h.cl hcs id hid with h1 | h1
    ·exact .inr (zcells_refs cks 0 id h1)
    ·exact .inl h1
   ·intro k r hk id hid
    obtain ⟨_,t,e⟩:=zcells_news cks 0 (k,r) hk
    simp only at e
    subst e
    simp [Res.refs] at hid
   ·intro g hg henv g' e1 e2 e3 e4 e5 e6
    have hnil:∀ p ∈ (zcells st.base D cks 0).2,g'.κ p.1=.slice none 0 0:=fun p hp=>by
     obtain ⟨⟨i,_,h2,h3⟩,_⟩:=zcells_news cks 0 p hp
     exact (e6 p.1 (hfree p hp) (by rw [h3];exact nid_ne (by omega))).1
    refine ⟨⟨us,rfl,hval g' (fun x=>(henv x).mono (by rw [e1];exact fun _ _ h=>h) e2 fun id hid=>e3 id (h.cl.1 x id hid)) hnil⟩,?_⟩
    intro id r hm
    obtain ⟨⟨i,_,h2,h3⟩,t,e⟩:=zcells_news cks 0 (id,r) hm
    simp only at e h3
    exact .inr ⟨by rw [h3];exact nid_ne (by omega),id,t,e⟩
  ·cases htr
 ·rename_i sz by_ m e t' hti
  obtain ⟨i,d,hi,hu,hsz,rfl,hsz',ie,zc,hie,hies,hzero,hzc,_⟩:=ht _ _ hti
  split at htr
  ·rename_i xs hxs
   split at htr
   ·rename_i hlen
    injection htr with htr
    subst htr
    obtain ⟨g,hg,henv⟩:=h.good
    obtain ⟨z1,z2⟩:=zrow g.ro t' m zc hzc
    obtain ⟨us,e1,e2,e3,_⟩:=elems_R (ro':=g.ro) (fun _ _ h=>h) henv ps.toList 0 xs [] zc hxs (by simp) (by rw [Nat.zero_add,hlen,z1];exact Nat.le_refl _)
    have hb:P.built ty (ps.map fun (i,x)=>(i,a.eval x)).toList=some us:=by
     unfold Program.built
     simp only [hi,hu,hzero,hie,hies]
     rw [hparts]
     exact e1
    refine Sound.plain1 h hd hg henv (by simp [S.refs,S0.refs]) (v:=.agg us) ?_ ?_
    ·have:=run_build (P:=P) w ty (ps.map fun (i,x)=>(i,a.eval x)) us hb
     simp [execOp,ho,this]
    ·refine ⟨us,rfl,by rw [e2,z1,hlen],?_⟩
     simpa using e3
   ·split at htr
    ·rename_i hlen0
     injection htr with htr
     subst htr
     obtain ⟨g,hg,henv⟩:=h.good
     obtain ⟨z1,z2⟩:=zrow g.ro t' m zc hzc
     obtain ⟨us,e1,e2,_,e4⟩:=elems_R (ro':=g.ro) (fun _ _ h=>h) henv ps.toList 0 xs [] zc hxs (by simp) (by rw [hlen0];simp)
     have hb:P.built ty (ps.map fun (i,x)=>(i,a.eval x)).toList=some us:=by
      unfold Program.built
      simp only [hi,hu,hzero,hie,hies]
      rw [hparts]
      exact e1
     have hus:us=zc:=by
      apply Array.ext e2
      intro j h1 h2
      have:=e4 j (.inr (by rw [hlen0];simp))
      rw [Array.getElem?_eq_getElem h1,Array.getElem?_eq_getElem h2] at this
      injection this
     subst hus
     refine Sound.plain1 h hd hg henv (by simp [S.refs,S0.refs]) (v:=.agg us) ?_ ?_
     ·have:=run_build (P:=P) w ty (ps.map fun (i,x)=>(i,a.eval x)) us hb
      simp [execOp,ho,this]
     ·exact ⟨us,rfl,by rw [z1];simp,z2⟩
    ·cases htr
  ·cases htr
 ·cases htr
end
end Go.SE
