import Derived.CallsIn
import Derived.Laws.World
import GoSem.Op.Equal
import GoSem.Core.Region
import Derived.Below
import Derived.Laws.AppendOwn
import Derived.Laws.Rows
import Derived.WalkKit
import Derived.Laws.CopyRow
import Derived.Laws.Cells
import Derived.Laws.Strings
import Derived.Lib.Strings
import Derived.Test.YtkhmakhdoedjiaaGreatDoorTaa
set_option linter.all false
set_option maxRecDepth 100000
section
namespace VE
open Go
structure Pl where
 b:Nat
 o:Nat
 e:Nat
 z:Nat
abbrev Mp:=Nat→Option Pl
section
variable (fid:Nat→Nat) (m:Mp) (S:Nat→Prop) (w:World)
mutual
def zm:AV→Value→Prop
 | .int k n,v=>v= .int k n
 | .bool b,v=>v= .bool b
 | .flt k b,v=>v= .float k b
 | .str s,v=>∃t:ByteArray,v= .string t∧t.data.toList.map UInt8.toNat=s
 | .nilp,v=>v= .pointer none
 | .ptr id o,v=>∃p,m id=some p∧v= .pointer (some ⟨p.b,p.o+o,none⟩)
 | .vptr cs,v=>∃b o,v= .pointer (some ⟨b,o,none⟩)∧(cs=[]∨S b)∧zn cs=true∧zX cs b o
 | .nils,v=>v= .slice none 0 0
 | .vsl ex n cs,v=>(∃b o c,v= .slice (some ⟨b,o,none⟩) n c∧n≤c∧(ex=true→c=n)∧(cs=[]∨S b)∧zn cs=true∧zX cs b o)∨(∃a,v= .slice (some a) 0 0∧n=0∧cs=[])
 | .fsl _ _ _ _,_=>False
 | .osl id o n,v=>∃p c,m id=some p∧v= .slice (some ⟨p.b,p.o+o,none⟩) n c∧n≤c∧o+c*p.z=p.e
 | .fn (.f g) first cap,v=>∃fi ca:Array Value,v= .func (.func (fid g)) fi ca∧zi first fi.toList∧zi cap ca.toList
 | .fn (.y l) _ _,v=>∃p,m l=some p∧v= .func (.yield p.b) #[] #[]
 | .nilf,v=>v= .nilFunc
 | .nilm,v=>v= .map none
 | .map id,v=>∃p,m id=some p∧v= .map (some p.b)
 | .vmap ks vs,v=>∃b es clock,v= .map (some b)∧S b∧zn ks=true∧zn vs=true∧w.heap[b]? =some (.map es clock)∧
   zi ks (es.toList.map (·.key))∧zi vs (es.toList.map (·.val))
 | .it id,v=>∃p,m id=some p∧v= .pointer (some ⟨p.b,0,none⟩)
 | .agg cs,v=>∃xs:Array Value,v= .agg xs∧zi cs xs.toList
 | .tup cs,v=>∃xs:Array Value,v= .tuple xs∧zi cs xs.toList
 | .undef,_=>True
def zi:List AV→List Value→Prop
 | [],us=>us=[]
 | c::cs,us=>∃u r,us=u::r∧zm c u∧zi cs r
def zX:List AV→Nat→Nat→Prop
 | [],_,_=>True
 | c::cs,b,o=>(∃u,w.cell? ⟨b,o,none⟩=some u∧zm c u)∧zX cs b (o+1)
end
end
def zaP (S:Nat→Prop) (w w':World):Prop:=∀b,S b→w'.heap[b]? =w.heap[b]?
theorem zdA {w w':World} {b o:Nat} (h:w'.heap[b]? =w.heap[b]?):w'.cell? ⟨b,o,none⟩=w.cell? ⟨b,o,none⟩:=by
 simp only [World.cell?,h]
section
variable {fid:Nat→Nat} {m m':Mp} {S S':Nat→Prop} {w w':World}
mutual
theorem za9 (hm:∀id p,m id=some p→m' id=some p) (hS:∀b,S b→S' b) (hw:zaP S w w'):
  ∀(v:AV) (u:Value),zm fid m S w v u→zm fid m' S' w' v u
 | .int _ _,_,h | .bool _,_,h | .flt _ _,_,h | .str _,_,h | .nilp,_,h | .nils,_,h | .nilf,_,h | .nilm,_,h | .undef,_,h=>by
  simpa only [zm] using h
 | .ptr id o,u,h=>by
  simp only [zm] at h ⊢;obtain ⟨p,h1,h2⟩:=h;exact ⟨p,hm _ _ h1,h2⟩
 | .vptr cs,u,h=>by
  simp only [zm] at h ⊢;obtain ⟨b,o,h1,h2,h3,h4⟩:=h;refine ⟨b,o,h1,h2.imp id (hS b),h3,?_⟩;rcases h2 with rfl | h2
  ·simp only [zX]
  ·exact zgR hm hS hw cs b o h2 h4
 | .vsl ex n cs,u,h=>by
  simp only [zm] at h ⊢;rcases h with ⟨b,o,c,h1,h2,h3,h4,h5,h6⟩ | h
  ·refine .inl ⟨b,o,c,h1,h2,h3,h4.imp id (hS b),h5,?_⟩;rcases h4 with rfl | h4
   ·simp only [zX]
   ·exact zgR hm hS hw cs b o h4 h6
  ·exact .inr h
 | .fsl _ _ _ _,u,h=>by simp only [zm] at h
 | .osl id o n,u,h=>by
  simp only [zm] at h ⊢;obtain ⟨p,c,h1,h2⟩:=h;exact ⟨p,c,hm _ _ h1,h2⟩
 | .fn (.f g) first cap,u,h=>by
  simp only [zm] at h ⊢;obtain ⟨fi,ca,h1,h2,h3⟩:=h;exact ⟨fi,ca,h1,zah hm hS hw first _ h2,zah hm hS hw cap _ h3⟩
 | .fn (.y l) _ _,u,h=>by
  simp only [zm] at h ⊢;obtain ⟨p,h1,h2⟩:=h;exact ⟨p,hm _ _ h1,h2⟩
 | .map id,u,h=>by
  simp only [zm] at h ⊢;obtain ⟨p,h1,h2⟩:=h;exact ⟨p,hm _ _ h1,h2⟩
 | .vmap ks vs,u,h=>by
  simp only [zm] at h ⊢;obtain ⟨b,es,clock,h1,h2,h3,h4,h5,h6,h7⟩:=h;exact ⟨b,es,clock,h1,hS b h2,h3,h4,(hw b h2).trans h5,zah hm hS hw ks _ h6,zah hm hS hw vs _ h7⟩
 | .it id,u,h=>by
  simp only [zm] at h ⊢;obtain ⟨p,h1,h2⟩:=h;exact ⟨p,hm _ _ h1,h2⟩
 | .agg cs,u,h=>by
  simp only [zm] at h ⊢;obtain ⟨xs,h1,h2⟩:=h;exact ⟨xs,h1,zah hm hS hw cs _ h2⟩
 | .tup cs,u,h=>by
  simp only [zm] at h ⊢;obtain ⟨xs,h1,h2⟩:=h;exact ⟨xs,h1,zah hm hS hw cs _ h2⟩
theorem zah (hm:∀id p,m id=some p→m' id=some p) (hS:∀b,S b→S' b) (hw:zaP S w w'):
  ∀(vs:List AV) (us:List Value),zi fid m S w vs us→zi fid m' S' w' vs us
 | [],us,h=>by simpa only [zi] using h
 | v::r,us,h=>by
  simp only [zi] at h ⊢;obtain ⟨u,t,h1,h2,h3⟩:=h;exact ⟨u,t,h1,za9 hm hS hw v u h2,zah hm hS hw r t h3⟩
theorem zgR (hm:∀id p,m id=some p→m' id=some p) (hS:∀b,S b→S' b) (hw:zaP S w w'):
  ∀(cs:List AV) (b o:Nat),S b→zX fid m S w cs b o→zX fid m' S' w' cs b o
 | [],_,_,_,_=>by simp only [zX]
 | c::cs,b,o,hb,h=>by
  simp only [zX] at h ⊢;obtain ⟨⟨u,h1,h2⟩,h3⟩:=h;exact ⟨⟨u,(zdA (hw b hb)).trans h1,za9 hm hS hw c u h2⟩,zgR hm hS hw cs b (o+1) hb h3⟩
end
end
end VE
end
section
namespace VE
open Go
structure zbH where
 n:Nat
 ren:FuncId→Option Nat
 live:Nat→List Nat
 out:Nat→Option (List Nat)
 mode:Nat→Md
 fz:Nat→List Nat
section
variable (P:Program) (H:zbH)
mutual
def zaU:Value→AV
 | .int k n=> .int k n
 | .bool b=> .bool b
 | .float k b=> .flt k b
 | .string s=> .str (s.data.toList.map UInt8.toNat)
 | .pointer none=> .nilp
 | .slice none 0 0=> .nils
 | .map none=> .nilm
 | .nilFunc=> .nilf
 | .agg ⟨cs⟩=> .agg (zig cs)
 | .tuple ⟨cs⟩=> .tup (zig cs)
 | _=> .undef
def zig:List Value→List AV
 | []=>[]
 | v::r=>zaU v::zig r
end
def opX:Operand→X
 | .tmp t=> .t t
 | .const v=> .c (zaU v)
 | .global _=> .c .undef
 | .func f=>match H.ren f with | some g=> .c (.fn (.f g) [] []) | none=> .c .undef
def zdB:List Operand→List X
 | []=>[]
 | x::r=>opX H x::zdB r
def szT (t:TypeId):Option Nat:=match P.info? t with | some i=>some i.size | none=>none
def byT (t:TypeId):Option Nat:=match P.info? t with | some i=>some i.bytes | none=>none
def zea (t:TypeId):Option AV:=match P.info? t with | some i=>(match i.zero with | some v=>some (zaU v) | none=>none) | none=>none
def zbx (t:TypeId):Option Bool:=match P.underlying t with | some (.struct _) | some (.array _ _)=>some true | some _=>some false | none=>none
def bad:Op:= .call .pure (.c .undef) []
def zdD (place:Nat→Option (Nat×Nat)):List (Nat×Operand)→Option (List (Nat×Nat×X))
 | []=>some []
 | (i,x)::r=>
  match place i,zdD place r with
  | some (o,s),some l=>some ((o,s,opX H x)::l)
  | _,_=>none
def zcX (self:TypeId→Option (List Nat)):List Field→Nat→Option (List Nat)
 | [],_=>some []
 | f::r,o=>
  match self f.type,szT P f.type with
  | some ks,some s=>
   bif f.name != "_"&&Nat.beq f.offset o&&Nat.beq ks.length s&& !P.stoodInHeld f.type then
    (match zcX self r (o+s) with | some l=>some (ks++l) | none=>none)
   else none
  | _,_=>none
def zcQ:Nat→TypeId→Option (List Nat)
 | 0,_=>none
 | n+1,t=>
  match P.underlying t with
  | some .bool=>some [0]
  | some (.int _)=>some [1]
  | some .string=>some [2]
  | some (.struct fs)=>zcX P (fun u=>zcQ n u) fs.toList 0
  | some (.array k e)=>
   match zcQ n e,szT P e with
   | some ks,some s=>bif Nat.beq ks.length s&& !P.stoodInHeld e then some (List.replicate k ks).flatten else none
   | _,_=>none
  | _=>none
def keyOf (t:TypeId):Option Nat:=
 match P.underlying t with
 | some .bool=>some 0
 | some (.int _)=>some 1
 | some .string=>some 2
 | _=>none
def zdI (ne:Bool) (t:TypeId) (a b:Operand):Op:=
 match zcQ P 20 t with
 | some ks=>bif P.stoodInHeld t||P.eqGuardType P.depth t then bad else .eq ne (.ag ks) (opX H a) (opX H b)
 | none=>bad
def zeu (ne:Bool) (op:BinOp) (t:TypeId) (a b:Operand):Op:=
 match P.underlying t with
 | some (.int _) | some .string | some (.float _)=> .bin op (opX H a) (opX H b)
 | some .bool=> .eq ne .b (opX H a) (opX H b)
 | some (.slice _)=> .eq ne .sl (opX H a) (opX H b)
 | some (.func _ _ _)=> .eq ne .fn (opX H a) (opX H b)
 | some (.struct _) | some (.array _ _)=>zdI P H ne t a b
 | _=>bad
def zt (k:Nat) (o:Oper):Op:=
 let x (y:Operand):X:=opX H y
 match o.op with
 | .move a | .assign a=> .mov (x a)
 | .pick c a b=> .pick (x c) (x a) (x b)
 | .alloc t=>match szT P t,zea P t with | some s,some z=> .box s (.c z) | _,_=>bad
 | .box t v=>match szT P t with | some s=> .box s (x v) | none=>bad
 | .build t parts=>
  match P.underlying t,zea P t with
  | some (.struct fs),some (.agg z)=>
   match fs.toList.mapM (fun f=>(P.info? f.type).map fun i=>(f.offset,i.size)) with
   | some pl=>(match zdD H (fun i=>pl[i]?) parts.toList with | some ps=> .mkagg z ps | none=>bad)
   | none=>bad
  | some (.array _ e),some (.agg z)=>
   match szT P e with
   | some s=>(match zdD H (fun i=>some (i*s,s)) parts.toList with | some ps=> .mkagg z ps | none=>bad)
   | none=>bad
  | _,_=>bad
 | .buildSlice t n parts=>
  match P.underlying t with
  | some (.slice e)=>
   match szT P e,zea P e with
   | some s,some z=>
    bif Nat.ble (n*s) 16777216 then
     (match zdD H (fun i=>some (i*s,s)) parts.toList with | some ps=> .mksl n s (List.replicate n (cellsOf z)).flatten ps | none=>bad)
    else bad
   | _,_=>bad
  | _=>bad
 | .load t a=>match szT P t,zbx P t with | some s,some ag=> .ld s ag (x a) | _,_=>bad
 | .store t a v=>match szT P t with | some s=> .st s (x a) (x v) | none=>bad
 | .nilCheck a=> .nilc (x a)
 | .binOp op t a b _=>
  match op with
  | .eql=>zeu P H false op t a b
  | .neq=>zeu P H true op t a b
  | _=> .bin op (x a) (x b)
 | .unOp op _ a=> .un op (x a)
 | .convert s d a=>
  match P.underlying s,P.underlying d with
  | some (.int _),some (.int k) | some (.float _),some (.int k)=> .cv (.toInt k) (x a)
  | some (.int _),some (.float k) | some (.float _),some (.float k)=> .cv (.toFlt k) (x a)
  | some .string,some .string=> .cv .str (x a)
  | _,_=>bad
 | .makeFunc (.func f) first cap=>match H.ren f with | some g=> .mkf (.f g) (zdB H first.toList) (zdB H cap.toList) | none=>bad
 | .makeMap t none=>match P.underlying t with | some (.map ke _)=>(match keyOf P ke with | some _=> .mkm | none=>bad) | _=>bad
 | .makeSlice t l c=>
  match P.underlying t with
  | some (.slice e)=>(match szT P e,byT P e,zea P e with | some s,some b,some z=> .mks s b (cellsOf z) (x l) (x c) | _,_,_=>bad)
  | _=>bad
 | .slice t a lo hi none=>
  match P.underlying t with
  | some .string=> .sli .str (x a) (lo.map x) (hi.map x)
  | some (.slice e)=>(match szT P e with | some s=> .sli (.sl s) (x a) (lo.map x) (hi.map x) | none=>bad)
  | some (.array n e)=>(match szT P e with | some s=> .sli (.ar n s) (x a) (lo.map x) (hi.map x) | none=>bad)
  | _=>bad
 | .fieldAddr t a i=>
  match P.underlying t with
  | some (.struct fs)=>
   match fs[i]? with
   | some f=>(match szT P f.type with | some (_+1)=> .off f.offset (x a) | _=>bad)
   | none=>bad
  | _=>bad
 | .field t a i=>
  match P.underlying t with
  | some (.struct fs)=>
   match fs[i]? with
   | some f=>(match szT P f.type,zbx P f.type with | some s,some ag=> .fld f.offset s ag (x a) | _,_=>bad)
   | none=>bad
  | _=>bad
 | .indexAddr t a i=>
  match P.underlying t with
  | some (.slice e)=>(match szT P e with | some s=> .ixa s (x a) (x i) | none=>bad)
  | some (.array n e)=>(match szT P e with | some s=> .ixp n s (x a) (x i) | none=>bad)
  | _=>bad
 | .index t a i=>
  match P.underlying t with
  | some .string=> .ixs (x a) (x i)
  | some (.array n e)=>(match szT P e,zbx P e with | some s,some ag=> .ixv n s ag (x a) (x i) | _,_=>bad)
  | _=>bad
 | .lookup t a i ok=>
  match P.underlying t with
  | some (.map ke e)=>(match keyOf P ke,zea P e with | some kk,some z=> .lkp kk z ok (x a) (x i) | _,_=>bad)
  | _=>bad
 | .mapUpdate t a i v | .insert t a i v=>
  match P.underlying t with
  | some (.map ke _)=>(match keyOf P ke with | some kk=> .mup kk (x a) (x i) (x v) | none=>bad)
  | _=>bad
 | .range t a=>match P.underlying t with | some .string=> .rng (x a) | _=>bad
 | .next it true=> .nxt (x it)
 | .extract t i=> .ext i (x t)
 | .call c=>
  match c.callee with
  | .value f=>(match H.mode k with | .dyn=> .calld [] (x f) (zdB H c.args.toList) | md=> .call md (x f) (zdB H c.args.toList))
  | .builtin b=>
   match b,c.args.toList,c.argTypes.toList with
   | .append,[s,a],[t,u]=>
    match P.underlying t,P.underlying u with
    | some (.slice e),some (.slice _) | some (.slice e),some .string=>
     (match szT P e,byT P e,zea P e with | some sz,some by',some z=>(bif Nat.beq (cellsOf z).length sz then .app sz by' (x s) (x a) else bad) | _,_,_=>bad)
    | _,_=>bad
   | .len,[a],[t]=>
    match P.underlying t with
    | some (.array n _)=> .mov (.c (.int .i64 n))
    | some .string=> .len 0 (x a)
    | some (.slice _)=> .len 1 (x a)
    | some (.map _ _)=> .len 2 (x a)
    | _=>bad
   | .copy,[d,s],[t,_]=>
    match P.underlying t with
    | some (.slice e)=>(match szT P e with | some sz=> .cpy sz (x d) (x s) | none=>bad)
    | _=>bad
   | .min,l,_=> .mn (zdB H l)
   | .max,l,_=> .mx (zdB H l)
   | _,_,_=>bad
  | _=>bad
 | _=>bad
def zp2 (o:Oper):Bool:=match o.op with | .call {callee:= .value _,..}=>true | _=>false
def zn0 (d:Option Nat):Bool:=match d with | some i=>Nat.blt i H.n | none=>true
def zhg (n:Nat):List Nat→Bool
 | []=>true
 | i::r=>Nat.blt i n&&zhg n r
def zfa (ops:Array Oper):List Oper→Nat→List ROp×Nat
 | [],k=>([],k)
 | o::r,k=>
  let g:=match o.guard with
   | none=>some none
   | some (j,b)=>match (ops[j]?).bind (·.dst) with | some t=>some (some (t,b)) | none=>none
  match zfa ops r (k+(bif zp2 o then 1 else 0)) with
  | (l,k')=>
   match g,zn0 H o.dst with
   | some g,true=>(⟨o.dst,g,zt P H k o⟩::l,k')
   | _,_=>(⟨o.dst,none,bad⟩::l,k')
def zfy (acc:List Nat):List Edge→Nat
 | []=>0
 | e::r=>bif Region.binds .any e then (2^e.on|||acc.getD e.on 0)|||zfy acc r else zfy acc r
def zd1 (acc:List Nat):List Oper→List Nat
 | []=>acc
 | o::r=>zd1 (acc++[zfy acc o.after.toList]) r
def zeA:List Oper→Nat→Bool
 | [],_=>true
 | o::r,i=>o.after.toList.all (fun e=> !Region.binds .any e||Nat.blt e.on i)&&zeA r (i+1)
def zjj (ops:Array Oper) (draw:Bool) (k:Nat):List ROp×Nat:=
 match zfa P H ops ops.toList k with
 | (l,k')=>
  bif draw then
   (let ms:=zd1 [] ops.toList
    let l':=zfo [] l ms
    bif zeA ops.toList 0&&zfY [] l' ms then (l',k') else ([⟨none,none,bad⟩],k'))
  else (l,k')
def zG8:Code→Bool
 | .loop _=>true
 | _=>false
def comp:Code→Nat→Nat→VC×Nat×Nat
 | .skip,l,k | .label _,l,k=>(.skip,l,k)
 | .region i ops d,l,k=>match zjj P H ops d k with | (r,k')=>((match H.fz i with | []=> .reg r | t::ts=> .seq (.fz (t::ts)) (.reg r)),l,k')
 | .seq a b,l,k=>match comp a l k with | (a',l1,k1)=>match comp b l1 k1 with | (b',l2,k2)=>(.seq a' b',l2,k2)
 | .cond c a b,l,k=>
  match comp a (l+1) k with
  | (a',l1,k1)=>
   match comp b l1 k1 with
   | (b',l2,k2)=>(match H.out l with | some o=> .seq (.cond (opX H c) a' b') (.kp o) | none=> .cond (opX H c) a' b',l2,k2)
 | .block id a,l,k=>
  match comp a l k with
  | (a',r)=>(match zG8 a,H.out l with | true,some o=> .seq (.blk id a') (.kp o) | _,_=> .blk id a',r)
 | .loop a,l,k=>match comp a (l+1) k with | (a',r)=>(.loop (H.live l) a',r)
 | .rangeFunc f ps as_ body,l,k=>
  match comp as_ l k with | (as',l1,k1)=>match comp body l1 k1 with | (b',l2,k2)=>(bif zhg H.n ps.toList then .rf (opX H f) ps.toList as' b' else .reg [⟨none,none,bad⟩],l2,k2)
 | .exit id,l,k=>(.exit id,l,k)
 | .scope a,l,k=>comp a l k
 | .ret,l,k=>(.ret,l,k)
 | .goto _,l,k | .refuse _,l,k=>(.reg [⟨none,none,bad⟩],l,k)
def zca:List ResultVar→Option (List RV)
 | []=>some []
 | .tmp t::r=>match zca r with | some l=>some (.t t::l) | none=>none
 | .cell a t::r=>match szT P t,zbx P t,zca r with | some s,some ag,some l=>some (.cell a s ag::l) | _,_,_=>none
def zhY (fn:Func):Option Fnc:=
 match fn.body,zca P fn.results.toList with
 | some c,some rs=>bif Nat.ble H.n fn.ntmps then some ⟨rs,(comp P H c 0 0).1⟩ else none
 | _,_=>none
end
end VE
end
section
namespace VE
open Go
structure Link where
 P:Program
 lib:Lib
 fid:Nat→Nat
 prog:zN
 hint:Nat→zbH
 w0:World
def Cod (P:Program) (H:zbH) (v:VC) (c:Code):Prop:=∃l k,(comp P H c l k).1=v
def zoI:Nat→LoopState
 | 0=> .ready
 | 1=> .busy
 | 2=> .done
 | _=> .exhausted
def zfb:Jump→Option Code
 | .none=>none
 | .ret=>some .ret
 | .exit id=>some (.exit id)
section
variable (Λ:Link) (m:Mp) (S:Nat→Prop) (w:World)
def zaB (tm:Env) (tmps:Array Value):Prop:=∀i,zm Λ.fid m S w (zc tm i) (tmps.getD i undef)
def zcB (id:Nat):Obj→Prop
 | .cells rw pu ex sz cs=>∃p arr t,m id=some p∧w.heap[p.b]? =some (.cells arr t (0,0))∧p.z=sz∧cs.length≤p.e∧p.o+p.e≤arr.size∧
   (ex=true→cs.length=p.e)∧zX Λ.fid m S w cs p.b p.o∧(pu=true→zn cs=true)∧(rw=true→¬S p.b)∧(rw=false→S p.b)
 | .mp rw ks vs=>∃p es clock,m id=some p∧w.heap[p.b]? =some (.map es clock)∧zi Λ.fid m S w ks (es.toList.map (·.key))∧zi Λ.fid m S w vs (es.toList.map (·.val))∧
   (rw=true→¬S p.b)∧(rw=false→S p.b)
 | .si s pos=>∃p t,m id=some p∧w.heap[p.b]? =some (.stringIter t pos)∧t.data.toList.map UInt8.toNat=s∧¬S p.b
 | .lp tm ps as_ body st pe=>∃p l h,m id=some p∧w.heap[p.b]? =some (.loop l)∧¬S p.b∧l.state=zoI st∧st≤2∧l.pending=zfb pe∧zaB Λ m S w tm l.tmps∧
   l.params.toList=ps∧Cod Λ.P (Λ.hint h) as_ l.assign∧Cod Λ.P (Λ.hint h) body l.body∧(Λ.hint h).n≤l.tmps.size∧zhg (Λ.hint h).n ps=true
structure zR (hp:Hp) (ct:Nat):Prop where
 obj:∀id o p,zq hp id=some o→m id=some p→zcB Λ m S w id o
 lt:∀id p,m id=some p→id<ct
 inj:∀i j oi oj pi pj,zq hp i=some oi→zq hp j=some oj→m i=some pi→m j=some pj→pi.b=pj.b→i=j
 slt:∀b,S b→b<w.heap.size
 blt:∀id p,m id=some p→p.b<w.heap.size
 low:∀id p,m id=some p→Λ.w0.heap.size≤p.b
 good:∀b,b<Λ.w0.heap.size→w.heap[b]? =Λ.w0.heap[b]?
 goodS:Λ.w0.heap.size≤w.heap.size
 hlt:∀id o,zq hp id=some o→id<ct
end
def Own (m:Mp) (hp:Hp) (b:Nat):Prop:=∃id o p,zq hp id=some o∧m id=some p∧p.b=b
structure Fwd (m:Mp) (S:Nat→Prop) (w:World) (hp:Hp) (m':Mp) (S':Nat→Prop) (w':World) (hp':Hp) (base:Nat):Prop where
 os:w'.os=w.os
 tape:w'.tape=w.tape
 output:w'.output=w.output
 size:w.heap.size≤w'.heap.size
 same:∀b,b<w.heap.size→¬Own m hp b→w'.heap[b]? =w.heap[b]?
 sub:∀b,S b→S' b
 still:∀b,S b→w'.heap[b]? =w.heap[b]?
 new:∀b,S' b→S b∨Own m hp b∨w.heap.size≤b
 own:∀b,Own m' hp' b→Own m hp b∨w.heap.size≤b
 old:∀id p,id<base→m id=some p→m' id=some p
 loops:∀(b:Nat) (r:Loop),w.heap[b]? =some (.loop r)→∃r':Loop,w'.heap[b]? =some (.loop r')
theorem Fwd.refl {m:Mp} {S:Nat→Prop} {w:World} {hp:Hp} {base:Nat}:Fwd m S w hp m S w hp base:=
 ⟨rfl,rfl,rfl,Nat.le_refl _,fun _ _ _=>rfl,fun _ h=>h,fun _ _=>rfl,fun _ h=> .inl h,fun _ h=> .inl h,fun _ _ _ h=>h,fun _ r h=>⟨r,h⟩⟩
theorem Fwd.trans {m m' m'':Mp} {S S' S'':Nat→Prop} {w w' w'':World} {hp hp' hp'':Hp} {base:Nat}
  (h:Fwd m S w hp m' S' w' hp' base) (k:Fwd m' S' w' hp' m'' S'' w'' hp'' base):Fwd m S w hp m'' S'' w'' hp'' base where
 os:=k.os.trans h.os
 tape:=k.tape.trans h.tape
 output:=k.output.trans h.output
 size:=Nat.le_trans h.size k.size
 same b hb ho:=(k.same b (Nat.lt_of_lt_of_le hb h.size) (fun ho'=>(h.own b ho').elim ho (fun h1=>by omega))).trans (h.same b hb ho)
 sub b hb:=k.sub b (h.sub b hb)
 still b hb:=(k.still b (h.sub b hb)).trans (h.still b hb)
 new b hb:=by
  rcases k.new b hb with h1 | h1 | h1
  ·exact h.new b h1
  ·rcases h.own b h1 with h2 | h2
   ·exact .inr (.inl h2)
   ·exact .inr (.inr h2)
  ·exact .inr (.inr (Nat.le_trans h.size h1))
 own b hb:=by
  rcases k.own b hb with h1 | h1
  ·exact h.own b h1
  ·exact .inr (Nat.le_trans h.size h1)
 old id p hid hp:=k.old id p hid (h.old id p hid hp)
 loops b r hb:=let ⟨r',h1⟩:=h.loops b r hb;k.loops b r' h1
end VE
end
section
namespace VE
open Go
section
variable {fid:Nat→Nat} {m:Mp} {S:Nat→Prop} {w:World}
mutual
theorem zi4:∀v:Value,zm fid m S w (zaU v) v
 | .int _ _ | .bool _ | .float _ _=>by simp only [zaU,zm]
 | .string s=>by simp only [zaU,zm];exact ⟨s,rfl,rfl⟩
 | .pointer none=>by simp only [zaU,zm]
 | .pointer (some _)=>by simp only [zaU,zm]
 | .slice none 0 0=>by simp only [zaU,zm]
 | .slice none 0 (_+1)=>by simp only [zaU,zm]
 | .slice none (_+1) _=>by simp only [zaU,zm]
 | .slice (some _) _ _=>by simp only [zaU,zm]
 | .map none=>by simp only [zaU,zm]
 | .map (some _)=>by simp only [zaU,zm]
 | .nilFunc=>by simp only [zaU,zm]
 | .agg ⟨cs⟩=>by simp only [zaU,zm];exact ⟨⟨cs⟩,rfl,zjP cs⟩
 | .tuple ⟨cs⟩=>by simp only [zaU,zm];exact ⟨⟨cs⟩,rfl,zjP cs⟩
 | .complex _ _ _ | .chan _ | .func _ _ _ | .iface _ _ | .nilIface=>by simp only [zaU,zm]
theorem zjP:∀l:List Value,zi fid m S w (zig l) l
 | []=>by simp only [zig,zi]
 | v::r=>by simp only [zig,zi];exact ⟨v,r,rfl,zi4 v,zjP r⟩
end
end
def zaM (Λ:Link) (H:zbH):Prop:=∀f g,H.ren f=some g→Λ.fid g=f
section
variable {Λ:Link} {H:zbH} {m:Mp} {S:Nat→Prop} {w:World} {tm:Env} {a:Act}
theorem zad (hH:zaM Λ H) (ht:zaB Λ m S w tm a.tmps) (x:Operand):zm Λ.fid m S w (zp tm (opX H x)) (a.eval x):=by
 cases x with
 | tmp t=>exact ht t
 | const v=>simp only [opX,zp,Act.eval];exact zi4 v
 | global g=>simp only [opX,zp,zm]
 | func f=>
  simp only [opX,Act.eval]
  cases hr:H.ren f with
  | none=>simp only [zp,zm]
  | some g=>simp only [zp,zm,hH f g hr,zi];exact ⟨#[],#[],rfl,rfl,rfl⟩
theorem zgK (hH:zaM Λ H) (ht:zaB Λ m S w tm a.tmps):∀l:List Operand,zi Λ.fid m S w (zaz tm (zdB H l)) (l.map a.eval)
 | []=>by simp only [zdB,zaz,List.map_nil,zi]
 | x::r=>by simp only [zdB,zaz,List.map_cons,zi];exact ⟨_,_,rfl,zad hH ht x,zgK hH ht r⟩
end
section
variable {Λ:Link} {m:Mp} {S:Nat→Prop} {w:World}
theorem zbh {fid:Nat→Nat}:∀(k:Nat) (cs:List AV) (b o:Nat),zX fid m S w cs b o→zX fid m S w (cs.drop k) b (o+k)
 | 0,cs,b,o,h=>by simpa using h
 | k+1,[],b,o,_=>by simp only [List.drop_nil,zX]
 | k+1,c::cs,b,o,h=>by
  simp only [zX] at h
  have:=zbh k cs b (o+1) h.2
  rw [List.drop_succ_cons,show o+(k+1)=o+1+k by omega];exact this
theorem zcg {fid:Nat→Nat}:∀(k:Nat) (cs:List AV) (b o:Nat),zX fid m S w cs b o→zX fid m S w (cs.take k) b o
 | 0,cs,b,o,_=>by simp only [List.take_zero,zX]
 | k+1,[],b,o,_=>by simp only [List.take_nil,zX]
 | k+1,c::cs,b,o,h=>by
  simp only [zX,List.take_succ_cons] at h ⊢;exact ⟨h.1,zcg k cs b (o+1) h.2⟩
theorem zbu {fid:Nat→Nat}:∀(cs:List AV) (b o:Nat),zX fid m S w cs b o→
  ∃us:List Value,zi fid m S w cs us∧us.length=cs.length∧∀j u,us[j]? =some u→w.cell? ⟨b,o+j,none⟩=some u
 | [],b,o,_=>⟨[],by simp only [zi],rfl,fun j u h=>by simp at h⟩
 | c::cs,b,o,h=>by
  simp only [zX] at h;obtain ⟨⟨u,h1,h2⟩,h3⟩:=h;obtain ⟨us,h4,h5,h6⟩:=zbu cs b (o+1) h3;refine ⟨u::us,by simp only [zi];exact ⟨u,us,rfl,h2,h4⟩,by simp [h5],fun j v hv=>?_⟩
  cases j with
  | zero=>simp at hv;subst hv;simpa using h1
  | succ j=>simp at hv;have:=h6 j v hv;rw [show o+(j+1)=o+1+j by omega];exact this
theorem zax {fid:Nat→Nat}:∀(cs:List AV) (us:List Value),zi fid m S w cs us→us.length=cs.length
 | [],us,h=>by simp only [zi] at h;subst h;rfl
 | c::cs,us,h=>by
  simp only [zi] at h;obtain ⟨u,r,rfl,_,h3⟩:=h;simp [zax cs r h3]
end
end VE
end
section
namespace VE
open Go
theorem zdt (b o j:Nat):(⟨b,o,none⟩:Addr).add j=⟨b,o+j,none⟩:=by
 unfold Addr.add;split<;>simp_all
section
variable {P:Program} {w:World}
theorem znv (t:TypeId) (b o:Nat) (us:List Value) (ha:zbx P t=some true) (hz:szT P t=some us.length)
  (h:∀j u,us[j]? =some u→w.cell? ⟨b,o+j,none⟩=some u):(loadVar t ⟨b,o,none⟩).run P w= .ok (.agg us.toArray) w:=by
 have hl:=run_loadCells_list (P:=P) w ⟨b,o,none⟩ us (fun j u hu=>by rw [zdt];exact h j u hu)
 unfold szT at hz
 cases hi:P.info? t with
 | none=>simp [hi] at hz
 | some i=>
  simp only [hi,Option.some.injEq] at hz;unfold zbx at ha
  cases hu:P.underlying t with
  | none=>simp [hu] at ha
  | some d=>cases d<;>simp_all [loadVar,isAgg,Go.sizeOf,typeInfo,underlying]
theorem znu (t:TypeId) (b o:Nat) (u:Value) (ha:zbx P t=some false)
  (h:w.cell? ⟨b,o,none⟩=some u):(loadVar t ⟨b,o,none⟩).run P w= .ok u w:=by
 unfold zbx at ha
 cases hu:P.underlying t with
 | none=>simp [hu] at ha
 | some d=>cases d<;>simp_all [loadVar,isAgg,underlying]
end
section
variable {Λ:Link} {m:Mp} {S:Nat→Prop} {w:World}
theorem zjl {t:TypeId} {sz:Nat} {ag:Bool} {cs:List AV} {b o:Nat} {v:AV} (hz:szT Λ.P t=some sz) (ha:zbx Λ.P t=some ag)
  (hr:zX Λ.fid m S w cs b o) (hv:ld1 sz ag cs=some v):∃u,(loadVar t ⟨b,o,none⟩).run Λ.P w= .ok u w∧zm Λ.fid m S w v u:=by
 cases ag with
 | true=>
  simp only [ld1,cond_true] at hv
  cases hle:Nat.ble sz cs.length with
  | false=>simp only [hle,cond_false] at hv;cases hv
  | true=>
   simp only [hle,cond_true,Option.some.injEq] at hv;subst hv;obtain ⟨us,h1,h2,h3⟩:=zbu _ _ _ (zcg sz cs b o hr);have hlen:us.length=sz:=by
    rw [h2,List.length_take];have:=Nat.le_of_ble_eq_true hle;omega
   refine ⟨.agg us.toArray,znv t b o us ha (by rw [hlen];exact hz) h3,?_⟩
   simp only [zm];exact ⟨us.toArray,rfl,by simpa using h1⟩
 | false=>
  simp only [ld1,cond_false] at hv
  cases cs with
  | nil=>simp at hv
  | cons c cs=>
   simp only [Option.some.injEq] at hv;subst hv;simp only [zX] at hr;obtain ⟨⟨u,h1,h2⟩,_⟩:=hr;exact ⟨u,znu t b o u ha h1,h2⟩
theorem zrM {t:TypeId} {sz o:Nat} {ag:Bool} {cs:List AV} {xs:Array Value} {v:AV} (hz:szT Λ.P t=some sz) (ha:zbx Λ.P t=some ag)
  (hr:zi Λ.fid m S w cs xs.toList) (hv:ld1 sz ag (cs.drop o)=some v):∃u,(part t xs o).run Λ.P w= .ok u w∧zm Λ.fid m S w v u:=by
 have hd:∀(k:Nat) (cs:List AV) (us:List Value),zi Λ.fid m S w cs us→zi Λ.fid m S w (cs.drop k) (us.drop k):=by
  intro k
  induction k with
  | zero=>intro cs us h;simpa using h
  | succ k ih=>
   intro cs us h
   cases cs with
   | nil=>simp only [zi] at h;subst h;simp [zi]
   | cons c cs=>simp only [zi] at h;obtain ⟨u,r,rfl,_,h3⟩:=h;simpa using ih cs r h3
 have htk:∀(k:Nat) (cs:List AV) (us:List Value),zi Λ.fid m S w cs us→zi Λ.fid m S w (cs.take k) (us.take k):=by
  intro k
  induction k with
  | zero=>intro cs us h;simp [zi]
  | succ k ih=>
   intro cs us h
   cases cs with
   | nil=>simp only [zi] at h;subst h;simp [zi]
   | cons c cs=>simp only [zi] at h;obtain ⟨u,r,rfl,h2,h3⟩:=h;simp only [List.take_succ_cons,zi];exact ⟨u,_,rfl,h2,ih cs r h3⟩
 have hagg:(isAgg t).run Λ.P w= .ok ag w:=by
  unfold zbx at ha
  cases hu:Λ.P.underlying t with
  | none=>simp [hu] at ha
  | some d=>cases d<;>simp_all [isAgg,underlying]
 have hsz:(Go.sizeOf t).run Λ.P w= .ok sz w:=by
  unfold szT at hz
  cases hi:Λ.P.info? t with
  | none=>simp [hi] at hz
  | some i=>simp_all [Go.sizeOf,typeInfo]
 have hr':=hd o cs xs.toList hr
 cases ag with
 | true=>
  simp only [ld1,cond_true] at hv
  cases hle:Nat.ble sz (cs.drop o).length with
  | false=>simp only [hle,cond_false] at hv;cases hv
  | true=>
   simp only [hle,cond_true,Option.some.injEq] at hv;subst hv;refine ⟨.agg (xs.extract o (o+sz)),by simp [part,Sem.run_bind,hagg,hsz],?_⟩;simp only [zm];refine ⟨_,rfl,?_⟩
   have:=htk sz _ _ hr'
   rw [show (xs.extract o (o+sz)).toList=(xs.toList.drop o).take sz by simp [Array.toList_extract,List.extract_eq_take_drop]];exact this
 | false=>
  simp only [ld1,cond_false] at hv
  cases hc:cs.drop o with
  | nil=>simp [hc] at hv
  | cons c r=>
   simp only [hc,Option.some.injEq] at hv;subst hv;rw [hc] at hr';simp only [zi] at hr';obtain ⟨u,us,h1,h2,_⟩:=hr';have hx:xs[o]? =some u:=by
    have:xs.toList[o]? =some u:=by
     have:=congrArg (fun l=>l[0]?) h1
     simpa using this
    simpa using this
   exact ⟨u,by simp [part,Sem.run_bind,hagg,hx],h2⟩
end
end VE
end
section
namespace VE
open Go
def zcn (t:ByteArray):List Nat:=t.data.toList.map UInt8.toNat
theorem zqS:∀a b:List UInt8,eqL (a.map UInt8.toNat) (b.map UInt8.toNat)=(a==b)
 | [],[]=>rfl
 | [],_::_=>rfl
 | _::_,[]=>rfl
 | a::x,b::y=>by
  have h:Nat.beq a.toNat b.toNat=(a==b):=by
   rw [Bool.eq_iff_iff,Nat.beq_eq,beq_iff_eq];exact UInt8.toNat_inj
  simp only [List.map_cons,eqL,zqS x y,h,List.cons_beq_cons]
theorem zr3:∀a b:List UInt8,ltL (a.map UInt8.toNat) (b.map UInt8.toNat)=Op.bytesLess a b
 | [],[]=>rfl
 | [],_::_=>rfl
 | _::_,[]=>rfl
 | a::x,b::y=>by
  have h:Nat.beq a.toNat b.toNat=(a==b):=by
   rw [Bool.eq_iff_iff,Nat.beq_eq,beq_iff_eq];exact UInt8.toNat_inj
  have h2:Nat.blt a.toNat b.toNat=decide (a<b):=by
   rw [Bool.eq_iff_iff];simp only [Nat.blt,Nat.ble_eq,decide_eq_true_eq,UInt8.lt_iff_toNat_lt];omega
  simp only [List.map_cons,ltL,Op.bytesLess,zr3 x y,h,h2]
theorem zl6 (s t:ByteArray):eqL (zcn s) (zcn t)=(s.toList==t.toList):=by
 rw [zcn,zcn,zqS,ByteArray.toList_eq,ByteArray.toList_eq]
theorem zvd (s t:ByteArray):ltL (zcn s) (zcn t)=Op.bytesLess s.toList t.toList:=by
 rw [zcn,zcn,zr3,ByteArray.toList_eq,ByteArray.toList_eq]
theorem zls (s:ByteArray):(zcn s).length=s.size:=by
 rw [zcn,List.length_map,Lib.size_eq]
section
variable {fid:Nat→Nat} {P:Program} {m:Mp} {S:Nat→Prop} {w:World} {t:TypeId}
theorem zzy {op:BinOp} {k:IntKind} {x y:Int} {v:AV} (h:zdy op k x y=some v):
  ∃u,(Go.binOp op t (.int k x) (.int k y)).run P w= .ok u w∧zm fid m S w v u:=by
 cases op<;>simp only [zdy,intCmp,Option.some.injEq] at h
 case add=>subst h;exact ⟨_,by simp [Go.binOp,Op.intArith];rfl,by simp [zm]⟩
 case sub=>subst h;exact ⟨_,by simp [Go.binOp,Op.intArith];rfl,by simp [zm]⟩
 case mul=>subst h;exact ⟨_,by simp [Go.binOp,Op.intArith];rfl,by simp [zm]⟩
 case quo=>
  by_cases hy:y=0
  ·simp [hy] at h
  ·simp only [hy,if_false,Option.some.injEq] at h;subst h;exact ⟨_,by simp [Go.binOp,Op.intDiv,hy];rfl,by simp [zm]⟩
 case rem=>
  by_cases hy:y=0
  ·simp [hy] at h
  ·simp only [hy,if_false,Option.some.injEq] at h;subst h;exact ⟨_,by simp [Go.binOp,Op.intDiv,hy];rfl,by simp [zm]⟩
 case and=>subst h;exact ⟨_,by simp [Go.binOp,Op.intBits];rfl,by simp [zm]⟩
 case or=>subst h;exact ⟨_,by simp [Go.binOp,Op.intBits];rfl,by simp [zm]⟩
 case xor=>subst h;exact ⟨_,by simp [Go.binOp,Op.intBits];rfl,by simp [zm]⟩
 case andNot=>subst h;exact ⟨_,by simp [Go.binOp,Op.intBits];rfl,by simp [zm]⟩
 case shl=>cases h
 case shr=>cases h
 all_goals
  subst h;exact ⟨_,by simp [Go.binOp,Op.intCmp];rfl,by simp [zm]⟩
theorem zj8 {op:BinOp} {k k':IntKind} {x y:Int} {v:AV} (h:zfe op k x y=some v):
  ∃u,(Go.binOp op t (.int k x) (.int k' y)).run P w= .ok u w∧zm fid m S w v u:=by
 unfold zfe at h;by_cases hy:y<0
 ·simp [hy] at h
 ·simp only [hy,if_false] at h;cases op<;>simp only [Option.some.injEq] at h
  case shl=>subst h;exact ⟨_,by simp [Go.binOp,Op.shift,hy];rfl,by simp [zm]⟩
  case shr=>subst h;exact ⟨_,by simp [Go.binOp,Op.shift,hy];rfl,by simp [zm]⟩
  all_goals cases h
theorem zxz {op:BinOp} {x y:ByteArray} {v:AV} (h:zn2 op (zcn x) (zcn y)=some v):
  ∃u,(Go.binOp op t (.string x) (.string y)).run P w= .ok u w∧zm fid m S w v u:=by
 cases op<;>simp only [zn2,zl6,zvd,zls,Option.some.injEq] at h
 case add=>
  cases hle:Nat.ble (x.size+y.size) 9223372036854775807 with
  | false=>rw [hle] at h;cases h
  | true=>
   rw [hle] at h;simp only [cond_true,Option.some.injEq] at h;subst h;have hle':=Nat.le_of_ble_eq_true hle;have hmax:¬(((x.size+y.size:Nat):Int)>IntKind.i64.max):=by
    have:IntKind.i64.max=9223372036854775807:=by decide
    rw [this];omega
   refine ⟨.string (x++y),?_,?_⟩
   ·simp only [Go.binOp,Op.stringOp,if_neg hmax,Sem.run_pure]
   ·simp only [zm];exact ⟨x++y,rfl,by simp [zcn]⟩
 all_goals first
  | (cases h;done)
  | (subst h;exact ⟨_,by simp [Go.binOp,Op.stringOp];rfl,by simp [zm]⟩)
theorem zyR {op:BinOp} {k:FloatKind} {x y:Nat} {v:AV} (h:zvP op k x y=some v):
  ∃u,(Go.binOp op t (.float k x) (.float k y)).run P w= .ok u w∧zm fid m S w v u:=by
 cases op<;>simp only [zvP,Option.some.injEq] at h
 case add=>
  cases hr:k.format.add x y with
  | none=>simp [hr] at h
  | some r=>simp only [hr,Option.some.injEq] at h;subst h;exact ⟨.float k r,by simp [Go.binOp,Op.floatArith,hr],by simp [zm]⟩
 case sub=>
  cases hr:k.format.sub x y with
  | none=>simp [hr] at h
  | some r=>simp only [hr,Option.some.injEq] at h;subst h;exact ⟨.float k r,by simp [Go.binOp,Op.floatArith,hr],by simp [zm]⟩
 case mul=>
  cases hr:k.format.mul x y with
  | none=>simp [hr] at h
  | some r=>simp only [hr,Option.some.injEq] at h;subst h;exact ⟨.float k r,by simp [Go.binOp,Op.floatArith,hr],by simp [zm]⟩
 case quo=>
  cases hr:k.format.div x y with
  | none=>simp [hr] at h
  | some r=>simp only [hr,Option.some.injEq] at h;subst h;exact ⟨.float k r,by simp [Go.binOp,Op.floatArith,hr],by simp [zm]⟩
 all_goals first
  | (cases h;done)
  | (subst h;exact ⟨_,by simp [Go.binOp,Op.floatCmp];rfl,by simp [zm]⟩)
theorem zv7 {op:BinOp} {vx vy v:AV} {x y:Value} (hx:zm fid m S w vx x) (hy:zm fid m S w vy y) (h:VE.binOp op vx vy=some v):
  ∃u,(Go.binOp op t x y).run P w= .ok u w∧zm fid m S w v u:=by
 unfold VE.binOp at h
 split at h
 ·rename_i k a k' b;simp only [zm] at hx hy;subst hx;subst hy
  split at h
  ·exact zj8 h
  ·exact zj8 h
  ·by_cases hk:k=k'
   ·subst hk;simp only [if_true] at h;exact zzy h
   ·simp [hk] at h
 ·rename_i k a k' b;simp only [zm] at hx hy;subst hx;subst hy;by_cases hk:k=k'
  ·subst hk;simp only [if_true] at h;exact zyR h
  ·simp [hk] at h
 ·rename_i a b;simp only [zm] at hx hy;obtain ⟨s,rfl,rfl⟩:=hx;obtain ⟨s',rfl,rfl⟩:=hy;exact zxz h
 ·cases h
end
end VE
end
