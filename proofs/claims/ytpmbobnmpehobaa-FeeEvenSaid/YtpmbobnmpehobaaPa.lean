/- Rounds are shared so that nobody earns more than somebody else by more than a single round which this one may cry, no share is better than the best one, no rounds have a greater bound, and to settle never makes the greatest fee greater, for all numbers. -/
import Derived.Calls
import Derived.Below
import Derived.CallsIn
set_option linter.unusedVariables false
set_option linter.unusedSimpArgs false
set_option linter.unusedSectionVars false
namespace Go.Eng
open Go
inductive PV where
  | bad | und
  | int (k:IntKind) (n:Int) | bool (b:Bool)
  | nilp | nilf | nilm | nils (sz:Nat)
  | agg (cs:List PV) | tup (vs:List PV)
  | sl (xs:List PV) | own (sz:Nat) (xs:List PV)
  | ref (p:PV) | box (p:PV)
  | map (es:List (PV×PV)) | omap (es:List (PV×PV))
  | func (f:FuncId) (first caps:List PV)
  | addr (r:Nat) (pre:List (Nat×Nat)) (i c:Nat) (sh:Option Nat)
  | bor (r:Nat) (pre:List (Nat×Nat)) (sz lo n:Nat)
  | bsl (r:Nat) (pre:List (Nat×Nat)) (i c:Nat) (sz:Nat) (ag:Bool) (n:Nat)
  | bmap (r:Nat) (pre:List (Nat×Nat))
  | lock (p:PV)
  | yld (h:Nat) | log (xs:List PV) (k:Int)
  deriving Inhabited
abbrev Path:=List (Nat×Nat)
def hidBase:Nat:=50000000
def outBase:Nat:=60000000
def ghost:Nat:=1000000000
def depth:Nat:=6
abbrev Env:=List (Nat×PV)
def Env.get:Env→Nat→PV
  | [],_ => .bad
  | (k,v)::e,s=>bif Nat.beq k s then v else Env.get e s
def Env.set:Env→Nat→PV→Env
  | [],s,p=>[(s,p)]
  | (k,v)::e,s,p=>bif Nat.beq k s then (s,p)::e else bif Nat.ble s k then (s,p)::(k,v)::e else (k,v)::Env.set e s p
def PV.cells:PV→List PV
  | .agg cs=>cs
  | p=>[p]
def ofCells:Option Nat→List PV→PV
  | some _,cs => .agg cs
  | none,c::_=>c
  | none,[] => .bad
def PV.isAgg:PV→Bool
  | .agg _=>true
  | _=>false
def PV.oneCell:PV→Bool
  | .int .. | .bool _ | .nilp | .nilf | .nilm | .nils _ | .sl _ | .own .. | .ref _ | .box _ | .map _ | .omap _ | .func .. | .addr .. | .bor .. | .bsl .. | .bmap .. => true
  | _=>false
def PV.whole (p:PV):Bool:=p.isAgg||p.oneCell
def PV.isTup:PV→Bool
  | .tup _=>true
  | _=>false
def PV.heavy0:PV→Bool
  | .own .. | .box .. | .omap .. => true
  | _=>false
mutual
def PV.heavy:PV→Bool
  | .own .. => true
  | .box _=>true
  | .omap _=>true
  | .lock _=>true
  | .agg cs=>heavys cs
  | .tup vs=>heavys vs
  | _=>false
def heavys:List PV→Bool
  | []=>false
  | p::ps=>p.heavy||heavys ps
end
def view0 (r:Nat) (pre:Path):PV→PV
  | .agg _ | .tup _ | .lock _ => .bad
  | .own sz xs => .bor r pre sz 0 xs.length
  | .box p => .addr r pre 0 0 (match p with | .agg cs=>some cs.length | _=>none)
  | .omap _ => .bmap r pre
  | p=>p
def viewCells (r:Nat) (pre:Path) (i:Nat):Nat→List PV→List PV
  | _,[]=>[]
  | c,p::ps=>view0 r (pre++[(i,c)]) p::viewCells r pre i (c+1) ps
def viewU (r:Nat):PV→PV
  | .agg cs => .agg (viewCells r [] 0 0 cs)
  | .tup _ => .bad
  | p=>view0 r [] p
def view (r:Nat):PV→PV
  | .lock p=>viewU r p
  | p=>viewU r p
def PV.unlock:PV→PV
  | .lock p=>p
  | p=>p
def elems:PV→Option (List PV)
  | .own _ xs=>some xs
  | .sl xs=>some xs
  | .box p=>some [p]
  | .ref p=>some [p]
  | .agg cs=>some [.agg cs]
  | _=>none
def hcells:PV→Option (List PV)
  | .own _ xs=>some xs
  | .box p=>some [p]
  | _=>none
def withElems:PV→List PV→Option PV
  | .own sz _,xs=>some (.own sz xs)
  | .box _,[p]=>some (.box p)
  | .agg _,[.agg cs]=>some (.agg cs)
  | _,_=>none
def helems:PV→Option (List PV)
  | .own _ xs=>some xs
  | .box p=>some [p]
  | .agg cs=>some [.agg cs]
  | _=>none
def setCells:PV→Nat→List PV→PV
  | .agg cs,c,qs => .agg (cs.take c++qs++cs.drop (c+qs.length))
  | _,_,q::_=>q
  | p,_,[]=>p
def getNode:PV→Path→Option PV
  | p,[]=>some p
  | p,(i,c)::rest =>
    match helems p with
    | some xs=>match xs[i]? with
      | some x=>match x.cells[c]? with
        | some q=>getNode q rest
        | none=>none
      | none=>none
    | none=>none
def modNode (f:PV→Option PV):PV→Path→Option PV
  | p,[]=>f p
  | p,(i,c)::rest =>
    match helems p with
    | some xs=>match xs[i]? with
      | some x=>match x.cells[c]? with
        | some q=>match modNode f q rest with
          | some q'=>withElems p (xs.set i (setCells x c [q']))
          | none=>none
        | none=>none
      | none=>none
    | none=>none
mutual
def freeze:PV→PV
  | .own _ xs => .sl (freezes xs)
  | .box q => .ref (freeze q)
  | .omap es => .map es
  | .agg cs => .agg (freezes cs)
  | .tup _ => .bad
  | .lock _ => .bad
  | p=>p
def freezes:List PV→List PV
  | []=>[]
  | p::ps=>freeze p::freezes ps
end
mutual
def PV.free:PV→Bool
  | .int .. | .bool .. | .nilp | .nilf | .nilm | .nils _ | .und=>true
  | .sl []=>true
  | .agg cs=>frees cs
  | .tup vs=>frees vs
  | .own _ xs=>frees xs
  | .box q=>q.free
  | .omap es=>freesM es
  | _=>false
def frees:List PV→Bool
  | []=>true
  | p::ps=>p.free&&frees ps
def freesM:List (PV×PV)→Bool
  | []=>true
  | (k,v)::es=>k.free&&v.free&&freesM es
end
inductive PM where
  | ok | fail
  | view (s:Nat) (k:PV→PM)
  | get (s:Nat) (k:PV→PM)
  | set (s:Nat) (p:PV) (k:PM)
  | cells (r:Nat) (pre:Path) (i c n:Nat) (k:Bool→List PV→PM)
  | deep (r:Nat) (pre:Path) (k:PV→PM)
  | wcells (r:Nat) (pre:Path) (i c:Nat) (qs:List PV) (k:PM)
  | wnode (r:Nat) (pre:Path) (q:PV) (k:PM)
  | kill (r:Nat) (pre:Path) (k:PM)
  | frz (r:Nat) (pre:Path) (k:PM)
  | killEx (r:Nat) (keep:List Path) (k:PM)
  | forget (h:Nat) (k:PM)
  | call (f:FuncId) (args hid:List PV) (k:PV→List PV→PM)
abbrev Oracle:=FuncId→List PV→List PV→Option (PV×List PV)
mutual
def PV.mapW (f:PV→PV):PV→PV
  | .addr r pre i c sh=>f (.addr r pre i c sh)
  | .bor r pre z lo n=>f (.bor r pre z lo n)
  | .bsl r pre i c sz ag n=>f (.bsl r pre i c sz ag n)
  | .bmap r pre=>f (.bmap r pre)
  | .log xs k=>f (.log xs k)
  | .agg cs => .agg (mapWs f cs)
  | .tup cs => .tup (mapWs f cs)
  | .func g a b => .func g (mapWs f a) (mapWs f b)
  | .ref q => .ref (q.mapW f)
  | .box q => .box (q.mapW f)
  | .lock q => .lock (q.mapW f)
  | p=>p
def mapWs (f:PV→PV):List PV→List PV
  | []=>[]
  | p::ps=>p.mapW f::mapWs f ps
end
mutual
def PV.ways:PV→List (Nat×Path)
  | .addr r pre .. => [(r,pre)]
  | .bor r pre .. => [(r,pre)]
  | .bsl r pre .. => [(r,pre)]
  | .bmap r pre=>[(r,pre)]
  | .agg cs=>wayss cs
  | .tup cs=>wayss cs
  | .func _ a b=>wayss a++wayss b
  | .ref q=>q.ways
  | .box q=>q.ways
  | .lock q=>q.ways
  | _=>[]
def wayss:List PV→List (Nat×Path)
  | []=>[]
  | p::ps=>p.ways++wayss ps
end
def PV.plain0:PV→Bool
  | .int .. | .bool .. | .nilp | .nilf | .nilm | .nils _ | .sl .. | .map .. => true
  | .ref q=>q.ways.isEmpty
  | _=>false
def PV.plain:PV→Bool
  | .agg cs=>cs.all PV.plain0
  | p=>p.plain0
def lose (r:Nat) (pre:Path):PV→PV
  | .addr r' q i c sh=>bif Nat.beq r' r&&pre.isPrefixOf q then .bad else .addr r' q i c sh
  | .bor r' q z lo n=>bif Nat.beq r' r&&pre.isPrefixOf q then .bad else .bor r' q z lo n
  | .bsl r' q i c sz ag n=>bif Nat.beq r' r&&pre.isPrefixOf q then .bad else .bsl r' q i c sz ag n
  | .bmap r' q=>bif Nat.beq r' r&&pre.isPrefixOf q then .bad else .bmap r' q
  | p=>p
def loseEx (r:Nat) (keep:List Path):PV→PV
  | .addr r' q i c sh=>bif Nat.beq r' r && !(q.isEmpty||keep.any q.isPrefixOf) then .bad else .addr r' q i c sh
  | .bor r' q z lo n=>bif Nat.beq r' r && !(q.isEmpty||keep.any q.isPrefixOf) then .bad else .bor r' q z lo n
  | .bsl r' q i c sz ag n=>bif Nat.beq r' r && !(q.isEmpty||keep.any q.isPrefixOf) then .bad else .bsl r' q i c sz ag n
  | .bmap r' q=>bif Nat.beq r' r && !(q.isEmpty||keep.any q.isPrefixOf) then .bad else .bmap r' q
  | p=>p
def Env.killEx (e:Env) (r:Nat) (keep:List Path):Env:=e.map fun x=>(x.1,x.2.mapW (loseEx r keep))
def isUnder (r:Nat) (pre:Path) (r':Nat) (q:Path):Bool:=Nat.beq r' r&&pre.isPrefixOf q
def inlineAt (i c:Nat) (sh:Option Nat) (q:PV):PV :=
  match hcells q with
  | some xs=>match xs[i]? with
    | some x=>match sh with
      | some m=>bif Nat.ble (c+m) x.cells.length&&x.isAgg then .ref (.agg (freezes ((x.cells.drop c).take m))) else .bad
      | none=>match x.cells[c]? with
        | some q=>bif q.oneCell then .ref (freeze q) else .bad
        | none => .bad
    | none => .bad
  | none => .bad
def inlineSl (lo n:Nat):PV→PV
  | .own _ xs=>bif Nat.ble (lo+n) xs.length then .sl (freezes ((xs.drop lo).take n)) else .bad
  | _ => .bad
def chunks (ag:Bool) (sz:Nat):Nat→List PV→List PV
  | 0,_=>[]
  | m+1,cs=>(bif ag then .agg (cs.take sz) else cs.headD .bad)::chunks ag sz m (cs.drop sz)
def chunksOk (ag:Bool) (sz m:Nat) (cs:List PV):Bool:=Nat.beq cs.length (m*sz)&&(ag||Nat.beq sz 1&&cs.all (fun q=>q.oneCell))
def inlineBsl (i c sz:Nat) (ag:Bool) (m:Nat) (q:PV):PV :=
  match hcells q with
  | some xs=>match xs[i]? with
    | some x=>bif chunksOk ag sz m ((x.cells.drop c).take (m*sz))&&(wayss x.cells).isEmpty then .sl (chunks ag sz m (freezes ((x.cells.drop c).take (m*sz)))) else .bad
    | none => .bad
  | none => .bad
def inlineMap:PV→PV
  | .omap es => .map es
  | _ => .bad
def atNode (q:Option PV) (f:PV→PV):PV :=
  match q with
  | some x=>f x
  | none => .bad
def inl (r:Nat) (pre:Path) (q0:PV):PV→PV
  | .addr r' q i c sh=>bif isUnder r pre r' q then atNode (getNode q0 (q.drop pre.length)) (inlineAt i c sh) else .addr r' q i c sh
  | .bor r' q z lo n=>bif isUnder r pre r' q then atNode (getNode q0 (q.drop pre.length)) (inlineSl lo n) else .bor r' q z lo n
  | .bsl r' q i c sz ag n=>bif isUnder r pre r' q then atNode (getNode q0 (q.drop pre.length)) (inlineBsl i c sz ag n) else .bsl r' q i c sz ag n
  | .bmap r' q=>bif isUnder r pre r' q then atNode (getNode q0 (q.drop pre.length)) inlineMap else .bmap r' q
  | p=>p
def PV.isLock:PV→Bool
  | .lock _=>true
  | _=>false
def Env.frz (e:Env) (r:Nat) (pre:Path):Option Env :=
  bif (e.get r).isLock then none else match getNode (e.get r) pre with
  | some q=>match modNode (fun _=>some (freeze q)) (e.get r) pre with
    | some root=>some ((e.set r root).map fun x=>(x.1,x.2.mapW (inl r pre q)))
    | none=>none
  | none=>none
def Env.kill (e:Env) (r:Nat) (pre:Path):Env:=e.map fun x=>(x.1,x.2.mapW (lose r pre))
def PV.num:PV→Bool
  | .int .. => true
  | .bool _=>true
  | _=>false
def PV.isWay:PV→Bool
  | .addr .. | .bor .. | .bsl .. | .bmap .. | .log .. => true
  | _=>false
def Env.forget (e:Env) (h:Nat):Env:=e.map fun x=>bif Nat.beq x.1 h||x.2.num then x else (x.1,.bad)
def readCells (r:Nat) (root:PV) (pre:Path) (i c n:Nat):Option (Bool×List PV) :=
  match getNode root.unlock pre with
  | some q=>match hcells q with
    | some xs=>match xs[i]? with
      | some x=>bif Nat.ble (c+n) x.cells.length then some (x.isAgg,viewCells r pre i c ((x.cells.drop c).take n)) else none
      | none=>none
    | none=>none
  | none=>none
def closedAt:PV→Path→Bool
  | .own ..,_=>true
  | _,[]=>false
  | p,(i,c)::rest =>
    match helems p with
    | some xs=>match xs[i]? with
      | some x=>match x.cells[c]? with
        | some q=>closedAt q rest
        | none=>false
      | none=>false
    | none=>false
def writeAt (root:PV) (pre:Path) (i c:Nat) (qs:List PV):Option PV :=
  bif closedAt root pre && !(wayss qs).isEmpty then none else modNode (fun q=>match hcells q with
    | some xs=>match xs[i]? with
      | some x=>bif Nat.ble (c+qs.length) x.cells.length then withElems q (xs.set i (setCells x c qs)) else none
      | none=>none
    | none=>none) root pre
def PM.run (o:Oracle):PM→Env→Option Env
  | .ok,e=>some e
  | .fail,_=>none
  | .view s k,e=>(k (Eng.view s (e.get s))).run o e
  | .get s k,e=>match e.get s with
    | .lock _=>none
    | p=>(k p).run o e
  | .set s p k,e=>k.run o (e.set s p)
  | .cells r pre i c n k,e=>match readCells r (e.get r) pre i c n with
    | some (a,qs)=>(k a qs).run o e
    | none=>none
  | .deep r pre k,e=>match getNode (e.get r).unlock pre with
    | some q=>(k q).run o e
    | none=>none
  | .wcells r pre i c qs k,e=>match writeAt (e.get r) pre i c qs with
    | some root=>k.run o (e.set r root)
    | none=>none
  | .wnode r pre q k,e=>bif (e.get r).isLock then none else match modNode (fun _=>some q) (e.get r) pre with
    | some root=>k.run o (e.set r root)
    | none=>none
  | .kill r pre k,e=>k.run o (e.kill r pre)
  | .frz r pre k,e=>match e.frz r pre with
    | some e'=>k.run o e'
    | none=>none
  | .killEx r keep k,e=>k.run o (e.killEx r keep)
  | .forget h k,e=>k.run o (e.forget h)
  | .call f args hid k,e=>match o f args hid with
    | some (v,hid')=>(k v hid').run o e
    | none=>none
structure Tok where
  look:List Nat:=[]
  rd:List Nat:=[]
  cel:List (Nat×Path):=[]
  wr:List Nat:=[]
  inn:List (Nat×Path):=[]
  ways:List (Nat×Path):=[]
  kills:List Nat:=[]
  killsIn:List Nat:=[]
  all:Bool:=false
  deriving Inhabited
def Tok.join (a b:Tok):Tok:=⟨a.look++b.look,a.rd++b.rd,a.cel++b.cel,a.wr++b.wr,a.inn++b.inn,a.ways++b.ways,a.kills++b.kills,a.killsIn++b.killsIn,a.all||b.all⟩
def sameView:PV→PV→Bool
  | .box p,.box q=>p.isAgg==q.isAgg&&Nat.beq p.cells.length q.cells.length
  | .own sz xs,.own sz' ys=>Nat.beq sz sz'&&Nat.beq xs.length ys.length
  | .omap _,.omap _=>true
  | _,_=>false
def keptView:PV→PV→Path→Bool
  | .agg cs,.agg ds,(_,c)::_=>match cs[c]?,ds[c]? with
    | some p,some q=>sameView p q
    | _,_=>false
  | p,q,_=>sameView p q
def meet (a b:List Nat):Bool:=a.any fun x=>b.any (Nat.beq x)
def roots (l:List (Nat×Path)):List Nat:=l.map (·.1)
def clash1 (a b:Tok):Bool :=
  a.all||meet a.wr b.look||meet a.wr b.rd||meet a.wr (roots b.cel)||meet a.wr b.wr||meet a.wr (roots b.inn)||meet (roots a.inn) b.rd||meet (roots a.inn) (roots b.inn) ||
    a.inn.any (fun w=>b.cel.any fun c=>Nat.beq w.1 c.1&&w.2.isPrefixOf c.2)||meet a.kills (roots b.ways) ||
    meet a.killsIn (roots (b.ways.filter fun w => !w.2.isEmpty))
def clash (a b:Tok):Bool:=clash1 a b||clash1 b a
def setTok (s:Nat) (p q:PV):Tok:={wr:=[s],ways:=p.ways++q.ways}
def turnTok (D:List Nat) (g g':Nat→PV) (ks ki:List Nat):Tok:={wr:=D,ways:=D.flatMap fun s=>(g s).ways++(g' s).ways,kills:=ks,killsIn:=ki}
def affected (e:Env) (h:Nat×Path→Bool):List Nat:=(e.filter fun x=>x.2.ways.any h).map (·.1)
def innTok (r:Nat) (w:Path) (b:Bool) (p q:PV):Tok:={inn:=bif b then [(r,w)] else [],wr:=bif b then [] else [r],ways:=p.ways++q.ways}
def PM.runT (o:Oracle):PM→Env→Option (Env×Tok)
  | .ok,e=>some (e,{})
  | .fail,_=>none
  | .view s k,e=>((k (Eng.view s (e.get s))).runT o e).map fun x=>(x.1,Tok.join {look:=[s]} x.2)
  | .get s k,e=>match e.get s with
    | .lock _=>none
    | p=>((k p).runT o e).map fun x=>(x.1,Tok.join {rd:=[s]} x.2)
  | .set s p k,e=>(k.runT o (e.set s p)).map fun x=>(x.1,Tok.join (setTok s (e.get s) p) x.2)
  | .cells r pre i c n k,e=>match readCells r (e.get r) pre i c n with
    | some (a,qs)=>((k a qs).runT o e).map fun x=>(x.1,Tok.join {cel:=[(r,pre)]} x.2)
    | none=>none
  | .deep r pre k,e=>match getNode (e.get r).unlock pre with
    | some q=>((k q).runT o e).map fun x=>(x.1,Tok.join {rd:=[r]} x.2)
    | none=>none
  | .wcells r pre i c qs k,e=>match writeAt (e.get r) pre i c qs with
    | some root=>(k.runT o (e.set r root)).map fun x=>(x.1,Tok.join (innTok r [] (keptView (e.get r) root pre) (e.get r) root) x.2)
    | none=>none
  | .wnode r pre q k,e=>bif (e.get r).isLock then none else match modNode (fun _=>some q) (e.get r) pre with
    | some root=>(k.runT o (e.set r root)).map fun x=>(x.1,Tok.join (innTok r pre.dropLast (keptView (e.get r) root pre&&(pre.isEmpty || !q.isAgg)) (e.get r) root) x.2)
    | none=>none
  | .kill r pre k,e=>(k.runT o (e.kill r pre)).map fun x=>(x.1,Tok.join (turnTok (affected e fun z=>isUnder r pre z.1 z.2) e.get (e.kill r pre).get [r] []) x.2)
  | .frz r pre k,e=>match e.frz r pre with
    | some e'=>(k.runT o e').map fun x=>(x.1,Tok.join (turnTok (r::affected e fun z=>isUnder r pre z.1 z.2) e.get e'.get [r] []) x.2)
    | none=>none
  | .killEx r keep k,e=>(k.runT o (e.killEx r keep)).map fun x=>(x.1,Tok.join (turnTok (affected e fun z=>Nat.beq z.1 r && !z.2.isEmpty) e.get (e.killEx r keep).get [] [r]) x.2)
  | .forget h k,e=>(k.runT o (e.forget h)).map fun x=>(x.1,{all:=true})
  | .call f args hid k,e=>match o f args hid with
    | some (v,hid')=>(k v hid').runT o e
    | none=>none
variable (P:Program)
def szT (t:TypeId):Option Nat:=(P.info? t).map (·.size)
def bytesT (t:TypeId):Option Nat:=(P.info? t).map (·.bytes)
def shT (t:TypeId):Option (Option Nat) :=
  match P.underlying t,P.info? t with
  | some (.struct _),some i=>some (some i.size)
  | some (.array _ _),some i=>some (some i.size)
  | some _,some i=>if i.size=1 then some none else none
  | _,_=>none
def elemT (t:TypeId):Option TypeId :=
  match P.underlying t with
  | some (.slice e)=>some e
  | _=>none
def zeroCells:Nat→TypeId→Option (List PV)
  | 0,_=>none
  | n+1,t=>match P.underlying t with
    | some (.int k)=>some [.int k 0]
    | some .bool=>some [.bool false]
    | some (.pointer _)=>some [.nilp]
    | some (.func ..)=>some [.nilf]
    | some (.map ..)=>some [.nilm]
    | some (.slice e)=>(szT P e).map fun s=>[.own s []]
    | some (.array m e)=>(zeroCells n e).map fun z=>(List.replicate m z).flatten
    | some (.struct fs)=>(fs.toList.mapM fun f=>zeroCells n f.type).map List.flatten
    | _=>none
def zero1:PV→Value→Bool
  | .int k n,.int k' m=>decide (k=k')&&decide (n=m)
  | .bool a,.bool b=>a==b
  | .nilp,.pointer none=>true
  | .nilf,.nilFunc=>true
  | .nilm,.map none=>true
  | .own _ [],.slice none 0 0=>true
  | _,_=>false
def zeros:List PV→List Value→Bool
  | [],[]=>true
  | p::ps,v::vs=>zero1 p v&&zeros ps vs
  | _,_=>false
def zeroIs:PV→Value→Bool
  | .agg cs,.agg vs=>zeros cs vs.toList
  | .agg _,_=>false
  | p,v=>zero1 p v
def zeroPV (t:TypeId):Option PV :=
  match zeroCells P 20 t,shT P t,(P.info? t).bind (·.zero) with
  | some cs,some sh,some v=>bif zeroIs (ofCells sh cs) v then some (ofCells sh cs) else none
  | _,_,_=>none
def constPV:Value→PV
  | .int k n => .int k n
  | .bool b => .bool b
  | .slice none 0 0 => .nils 0
  | .pointer none => .nilp
  | .nilFunc => .nilf
  | .map none => .nilm
  | .agg cs => .agg (cs.toList.map fun | .int k n => .int k n | .bool b => .bool b | _ => .bad)
  | _ => .bad
def opd (x:Operand) (k:PV→PM):PM :=
  match x with
  | .tmp t => .view t k
  | .const v=>k (constPV v)
  | .func f=>k (.func f [] [])
  | .global _ => .fail
def opdT (x:Operand) (k:PV→PM):PM :=
  match x with
  | .tmp t => .get t fun p=>if p.heavy then .set t .bad (k p) else k p
  | .const v=>k (constPV v)
  | .func f=>k (.func f [] [])
  | .global _ => .fail
def opds:List Operand→(List PV→PM)→PM
  | [],k=>k []
  | x::xs,k=>opd x fun p=>opds xs fun ps=>k (p::ps)
def opdsT:List Operand→(List PV→PM)→PM
  | [],k=>k []
  | x::xs,k=>opdT x fun p=>opdsT xs fun ps=>k (p::ps)
def lay (d:Nat) (p:PV) (k:PM):PM:=bif p.heavy then .kill d [] (.set d (p.mapW (lose d [])) k) else .set d p k
def put (d:Option Nat) (p:PV):PM :=
  match d with
  | none => .ok
  | some d=>bif p.isTup then .fail else lay d p .ok
def vslot (d i:Nat):Nat:=2000000+16*d+i
def putParts (d:Nat):Nat→List PV→PM→PM
  | n,[],k => .set d (.tup (List.replicate n .bad)) k
  | i,p::ps,k=>lay (vslot d i) p (putParts d (i+1) ps k)
def inParts (d s:Nat):Bool:=Nat.ble (vslot d 0) s&&Nat.blt s (vslot d 16)
def putRes (d:Option Nat) (v:PV):PM :=
  match d,v with
  | some d,.tup vs=>bif Nat.ble vs.length 16&&(wayss vs).all (fun w => !inParts d w.1) then .set d .bad (putParts d 0 vs .ok) else .fail
  | d,v=>put d v
def moveParts (s d:Nat):Nat→Nat→PM
  | n,0 => .set d (.tup (List.replicate n .bad)) .ok
  | i,n+1 => .get (vslot s i) fun p => .set (vslot s i) .bad (lay (vslot d i) p (moveParts s d (i+1) n))
def eqPV:PV→PV→Option Bool
  | .int k a,.int k' b=>if k=k' then some (a==b) else none
  | .bool a,.bool b=>some (a==b)
  | .nilp,.nilp=>some true
  | _,_=>none
def eqCells:List PV→List PV→Option Bool
  | [],[]=>some true
  | p::ps,q::qs=>match eqPV p q,eqCells ps qs with
    | some a,some b=>some (a&&b)
    | _,_=>none
  | _,_=>none
def someElem:PV→Bool
  | .sl (_::_)=>true
  | .own _ (_::_)=>true
  | .bor _ _ _ _ (_+1)=>true
  | _=>false
def sub (p:PV) (off:Nat) (sh:Option Nat):Option PV :=
  match p,sh with
  | .agg cs,some n=>if off+n≤cs.length then some (.agg ((cs.drop off).take n)) else none
  | .agg cs,none=>cs[off]?
  | _,_=>none
def eqFs (eq:TypeId→PV→PV→Option Bool) (sh:TypeId→Option (Option Nat)) (p q:PV):List Field→Option Bool
  | []=>some true
  | f :: fs =>
    if f.name = "_" then eqFs eq sh p q fs else
    match sh f.type with
    | some s=>match sub p f.offset s,sub q f.offset s with
      | some a,some b=>match eq f.type a b with
        | some true=>eqFs eq sh p q fs
        | r=>r
      | _,_=>none
    | none=>none
def eqEs (eq:PV→PV→Option Bool) (sh:Option Nat) (sz:Nat) (p q:PV):Nat→Nat→Option Bool
  | _,0=>some true
  | i,n+1 =>
    match sub p (i*sz) sh,sub q (i*sz) sh with
    | some a,some b=>match eq a b with
      | some true=>eqEs eq sh sz p q (i+1) n
      | r=>r
    | _,_=>none
def eqT:Nat→TypeId→PV→PV→Option Bool
  | 0,_,_,_=>none
  | n + 1,t,p,q =>
    match P.underlying t,p,q with
    | some (.int _),.int k a,.int k' b=>if k=k' then some (a==b) else none
    | some .bool,.bool a,.bool b=>some (a==b)
    | some (.pointer _),.nilp,.nilp=>some true
    | some (.struct fs),.agg xs,.agg ys=>bif P.stoodInHeld t then none else eqFs (eqT n) (shT P) (.agg xs) (.agg ys) fs.toList
    | some (.array len e),.agg xs,.agg ys=>match szT P e,shT P e with
      | some sz,some sh=>eqEs (eqT n e) sh sz (.agg xs) (.agg ys) 0 len
      | _,_=>none
    | _,_,_=>none
def eqV (t:TypeId) (p q:PV):Option Bool :=
  match q with
  | .nils _=>match P.underlying t,p with
    | some (.slice _),.nils _=>some true
    | some (.slice _),p=>bif someElem p then some false else none
    | _,_=>none
  | .agg ys=>match p with
    | .agg xs=>bif P.eqGuardType P.depth t then none else eqT P 20 t (.agg xs) (.agg ys)
    | _=>none
  | q=>bif p.isAgg then none else eqT P 20 t p q
def intOp (op:BinOp) (k:IntKind) (a b:Int):Option PV :=
  match op with
  | .add=>some (.int k (k.wrap (a+b)))
  | .sub=>some (.int k (k.wrap (a-b)))
  | .mul=>some (.int k (k.wrap (a*b)))
  | .quo=>if b=0 then none else some (.int k (k.wrap (a.tdiv b)))
  | .rem=>if b=0 then none else some (.int k (a.tmod b))
  | .and=>some (.int k (k.wrap (BitVec.ofInt k.bits a &&& BitVec.ofInt k.bits b).toNat))
  | .or=>some (.int k (k.wrap (BitVec.ofInt k.bits a ||| BitVec.ofInt k.bits b).toNat))
  | .xor=>some (.int k (k.wrap (BitVec.ofInt k.bits a ^^^ BitVec.ofInt k.bits b).toNat))
  | .eql=>some (.bool (a==b))
  | .neq=>some (.bool (a != b))
  | .lss=>some (.bool (decide (a<b)))
  | .leq=>some (.bool (decide (a≤b)))
  | .gtr=>some (.bool (decide (a>b)))
  | .geq=>some (.bool (decide (a≥b)))
  | _=>none
def binV (op:BinOp) (t:TypeId) (p q:PV):Option PV :=
  match op,p,q with
  | .shl,.int k a,.int _ b=>if b<0 then none else some (.int k (k.wrap (a*2 ^ (min b.toNat k.bits))))
  | .shr,.int k a,.int _ b=>if b<0 then none else some (.int k (a.fdiv (2 ^ (min b.toNat k.bits))))
  | op,.int k a,.int k' b=>if k=k' then intOp op k a b else none
  | .eql,p,q=>(eqV P t p q).map .bool
  | .neq,p,q=>(eqV P t p q).map fun b => .bool (!b)
  | _,_,_=>none
def lenOf:PV→Option Nat
  | .nils _=>some 0
  | .sl xs=>some xs.length
  | .bor _ _ _ _ n=>some n
  | .bsl _ _ _ _ _ _ n=>some n
  | _=>none
def readM (r:Nat) (pre:Path) (i c:Nat) (sh:Option Nat) (k:PV→PM):PM :=
  match sh with
  | some n => .cells r pre i c n fun a qs=>bif a then k (.agg qs) else .fail
  | none => .cells r pre i c 1 fun _ qs=>k (qs.headD .bad)
def killNew (r:Nat) (pre:Path) (i:Nat):Nat→List PV→PM→PM
  | _,[],k=>k
  | c,q::qs,k=>bif q.heavy then .kill r (pre++[(i,c)]) (killNew r pre i (c+1) qs k) else killNew r pre i (c+1) qs k
def resolves (res:PV→(PV→List (Nat×Path)→PM)→PM):List PV→(List PV→List (Nat×Path)→PM)→PM
  | [],k=>k [] []
  | p::ps,k=>res p fun q l=>resolves res ps fun qs m=>k (q::qs) (l++m)
def resolve (hb:Nat):Nat→PV→(PV→List (Nat×Path)→PM)→PM
  | 0,_,_ => .fail
  | n + 1,p,k =>
    match p with
    | .addr r pre i c sh=>bif Nat.ble hb r then k p [] else .deep r pre fun q=>match hcells q with
      | some xs=>match xs[i]? with
        | some x=>match sh with
          | some m=>bif Nat.ble (c+m) x.cells.length&&x.isAgg then resolve hb n (.agg ((x.cells.drop c).take m)) fun q l=>k (.ref q) ((r,pre)::l) else .fail
          | none=>match x.cells[c]? with
            | some q=>bif q.oneCell then resolve hb n q fun q l=>k (.ref q) ((r,pre)::l) else .fail
            | none => .fail
        | none => .fail
      | none => .fail
    | .bor r pre _ lo m=>bif Nat.ble hb r then k p [] else .deep r pre fun q=>match q with
      | .own _ xs=>bif Nat.ble (lo+m) xs.length then k (.sl (freezes ((xs.drop lo).take m))) [(r,pre)] else .fail
      | _ => .fail
    | .bsl r pre i c sz ag m=>bif Nat.ble hb r then k p [] else .deep r pre fun q=>match hcells q with
      | some xs=>match xs[i]? with
        | some x=>bif chunksOk ag sz m ((x.cells.drop c).take (m*sz))&&(wayss x.cells).isEmpty then k (.sl (chunks ag sz m (freezes ((x.cells.drop c).take (m*sz))))) [(r,pre)] else .fail
        | none => .fail
      | none => .fail
    | .bmap r pre=>bif Nat.ble hb r then k p [] else .deep r pre fun q=>match q with
      | .omap es=>k (.map es) [(r,pre)]
      | _ => .fail
    | .agg cs=>bif (p.ways).isEmpty then k (freeze p) [] else resolves (resolve hb n) cs fun qs l=>k (.agg qs) l
    | .func f a b=>bif (p.ways).isEmpty then k p [] else resolves (resolve hb n) a fun as l=>resolves (resolve hb n) b fun bs m=>k (.func f as bs) (l++m)
    | .ref q=>bif (q.ways).isEmpty then k p [] else resolve hb n q fun q l=>k (.ref q) l
    | .bad=>k .bad []
    | p=>bif p.ways.all (fun w=>Nat.ble hb w.1) then k (freeze p) [] else .fail
def listOf (p:PV) (k:List PV→PM):PM :=
  match p with
  | .nils _=>k []
  | .sl xs=>k xs
  | .bor r pre z lo n => .deep r pre fun q=>match q with
    | .own _ xs=>bif Nat.ble (lo+n) xs.length then k ((xs.drop lo).take n) else .fail
    | _ => .fail
  | .bsl r pre i c sz ag n => .cells r pre i c (n*sz) fun _ cs=>bif chunksOk ag sz n cs&&cs.all (fun q=>q.plain0) then k (chunks ag sz n cs) else .fail
  | _ => .fail
def share (p:PV) (k:PV→List (Nat×Path)→PM):PM:=resolve ghost depth p k
def iceM (hb:Nat):Nat→PV→(PV→PM)→PM
  | 0,_,_ => .fail
  | n+1,p,k=>match p.ways.find? (fun w=>Nat.blt w.1 hb) with
    | none=>k p
    | some (r,pre) => .deep r pre fun q => .frz r pre (iceM hb n (p.mapW (inl r pre q)) k)
def icing:Nat:=64
end Go.Eng
namespace Go.Eng
open Go
structure FHint where
  drop:Nat→List Nat:=fun _=>[]
  loopDrop:Nat→List Nat:=fun _=>[]
  mode:List Nat:=[]
  frz:Bool:=false
  intr:Nat:=0
  take:Nat→List Nat:=fun _=>[]
  nils:Bool:=false
  frzs:Nat→List Nat:=fun _=>[]
abbrev Hints:=FuncId→FHint
instance:Inhabited FHint:=⟨{}⟩
def rename (m:List (Nat×Nat)):PV→PV
  | .addr r pre i c sh=>match m.lookup r with
    | some h => .addr h pre i c sh
    | none => .bad
  | .bor r pre z lo n=>match m.lookup r with
    | some h => .bor h pre z lo n
    | none => .bad
  | .bsl r pre i c sz ag n=>match m.lookup r with
    | some h => .bsl h pre i c sz ag n
    | none => .bad
  | .bmap r pre=>match m.lookup r with
    | some h => .bmap h pre
    | none => .bad
  | p=>p
def renV (m:List (Nat×Nat)) (p:PV):PV:=p.mapW (rename m)
def rootsOf (p:PV):List Nat:=(p.ways).map (·.1)
structure Arg where
  p:PV
  shared:List (Nat×Path):=[]
  byref:Bool:=false
def moveArgs:List Nat→List PV→(List (Bool×PV)→PM)→PM
  | _,[],k=>k []
  | ms,p::ps,k =>
    match ms.headD 0,p with
    | 2,.bor r pre _ 0 n => .deep r pre fun q=>match q with
      | .own sz xs=>bif Nat.ble n xs.length then .wnode r pre .bad (moveArgs ms.tail ps fun as=>k ((true,.own sz ((xs.drop 0).take n))::as)) else .fail
      | _ => .fail
    | _,p=>moveArgs ms.tail ps fun as=>k ((false,p)::as)
def shareArgs:List Nat→List (Bool×PV)→(List Arg→PM)→PM
  | _,[],k=>k []
  | ms,(true,p)::ps,k=>shareArgs ms.tail ps fun as=>k ({p:=p}::as)
  | ms,(false,p)::ps,k =>
    bif Nat.beq (ms.headD 0) 1 then shareArgs ms.tail ps fun as=>k ({p:=p,byref:=true}::as)
    else share p fun q l=>shareArgs ms.tail ps fun as=>k ({p:=q,shared:=l}::as)
def iceArgs:List Nat→List (Bool×PV)→(List Arg→PM)→PM
  | _,[],k=>k []
  | ms,(true,p)::ps,k=>iceArgs ms.tail ps fun as=>k ({p:=p}::as)
  | ms,(false,p)::ps,k =>
    bif Nat.beq (ms.headD 0) 1 then iceArgs ms.tail ps fun as=>k ({p:=p,byref:=true}::as)
    else iceM ghost icing p fun q=>iceArgs ms.tail ps fun as=>k ({p:=q}::as)
def getsM:List Nat→(List PV→PM)→PM
  | [],k=>k []
  | r::rs,k => .get r fun p=>getsM rs fun ps=>k (p::ps)
def okRoot (old new:PV):Bool :=
  match new,old with
  | .own sz _,.own sz' _=>Nat.beq sz sz'
  | .own ..,_=>false
  | .box _,.box _=>true
  | .box _,_=>false
  | .omap _,.omap _=>true
  | .omap _,_=>false
  | .lock _,_=>false
  | .tup _,_=>false
  | _,_=>true
def setsM:List Nat→List PV→List PV→PM→PM
  | r::rs,o::os,p::ps,k=>bif okRoot o p then .wnode r [] p (setsM rs os ps k) else .fail
  | [],[],[],k=>k
  | _,_,_,_ => .fail
def closeM:Nat→List Nat→(List Nat→PM)→PM
  | 0,R,k=>k R
  | n+1,R,k=>getsM R fun ts=>let R':=(R++ts.flatMap rootsOf).eraseDups;bif Nat.beq R'.length R.length then k R else closeM n R' k
def killsM:List Nat→PM→PM
  | [],k=>k
  | r::rs,k => .killEx r [] (killsM rs k)
def hiddenOf (as:List Arg):List Nat:=(as.flatMap fun a=>if a.byref then rootsOf a.p else []).eraseDups
def distinct:List Nat→Bool
  | []=>true
  | r::rs => !rs.contains r&&distinct rs
variable (P:Program) (H:Hints)
def thereOf (R:List Nat):List (Nat×Nat):=R.zipIdx.map fun (r,j)=>(r,hidBase+j)
def backOf (R:List Nat):List (Nat×Nat):=R.zipIdx.map fun (r,j)=>(hidBase+j,r)
def callA (d:Option Nat) (f:FuncId) (as:List Arg) (again:PM):PM :=
  closeM 3 (hiddenOf as) fun R =>
  bif distinct R&&R.all (fun r=>Nat.blt r ghost)&&Nat.ble R.length 1000&&Nat.ble as.length 1000&&(as.flatMap (·.shared)).all (fun x => !R.contains x.1) then
    getsM R fun hid => .call f (as.map fun a=>if a.byref then renV (thereOf R) a.p else a.p) (hid.map (renV (thereOf R))) fun v hid' =>
      bif (as.flatMap (·.shared)).isEmpty||v.free&&frees hid' then
        killsM R<|setsM R hid (hid'.map (renV (backOf R))) (putRes d (renV (backOf R) v))
      else again
  else .fail
def callM (d:Option Nat) (f:FuncId) (args:List PV):PM :=
  moveArgs (H f).mode args fun bs=>shareArgs (H f).mode bs fun as=>callA d f as (iceArgs (H f).mode bs fun as=>callA d f as .fail)
def maxV:List PV→Option PV
  | .int k a::r=>(r.foldl (fun m p=>match m,p with
    | some m,.int k' b=>if k=k' then some (if b>m then b else m) else none
    | _,_=>none) (some a)).map (.int k)
  | _=>none
def minV:List PV→Option PV
  | .int k a::r=>(r.foldl (fun m p=>match m,p with
    | some m,.int k' b=>if k=k' then some (if b<m then b else m) else none
    | _,_=>none) (some a)).map (.int k)
  | _=>none
def optM {α:Type} (x:Option α) (k:α→PM):PM :=
  match x with
  | some a=>k a
  | none => .fail
def boolOf:PV→(Bool→PM)→PM
  | .bool b,k=>k b
  | _,_ => .fail
def natIdx:PV→(Nat→PM)→PM
  | .int _ n,k=>if 0≤n then k n.toNat else .fail
  | _,_ => .fail
def limit:Nat:=4294967296
def appendM (d:Option Nat) (sz:Nat) (base:PV) (ys:List PV):PM :=
  bif ys.all (fun y=>Nat.beq y.cells.length sz&&y.cells.all fun q=>q.oneCell)&&(wayss ys).isEmpty then
  match base with
  | .bor r pre z lo n => .deep r pre fun q=>match q with
    | .own s xs =>
      bif Nat.beq s sz&&Nat.ble (lo+n) xs.length&&Nat.ble (xs.length+ys.length) limit then
        bif Nat.beq (lo+n) xs.length then
          bif Nat.beq lo 0 then .wnode r pre .bad (put d (.own sz (xs++ys))) else .fail
        else .fail
      else .fail
    | _ => .fail
  | .nils _=>bif Nat.ble ys.length limit then put d (.own sz ys) else .fail
  | _ => .fail
  else .fail
def newsM (x:Operand) (k:List PV→PM):PM :=
  match x with
  | .tmp t => .get t fun p=>match p with
    | .own _ xs => .set t .bad (k xs)
    | _ => .view t fun p=>listOf p fun xs=>if xs.all (fun x=>x.plain) then k xs else .fail
  | x=>opd x fun p=>listOf p fun xs=>if xs.all (fun x=>x.plain) then k xs else .fail
def setsAt (r:Nat) (pre:Path):Nat→List PV→PM→PM
  | _,[],k=>k
  | i,y::ys,k=>killNew r pre i 0 y.cells (.wcells r pre i 0 y.cells (setsAt r pre (i+1) ys k))
def builtinM (d:Option Nat) (b:Builtin) (ts:List TypeId) (args:List Operand):PM :=
  match b,args,ts with
  | .len,[x],t::_=>opd x fun p=>match P.underlying t with
    | some (.array n _)=>put d (.int .i64 n)
    | some (.slice _)=>match lenOf p with
      | some n=>put d (.int .i64 n)
      | none => .fail
    | _ => .fail
  | .append,[x,y],[t,t2]=>bif (elemT P t2).isNone then .fail else match (elemT P t).bind (szT P),(elemT P t).bind (bytesT P),(elemT P t).bind (zeroPV P) with
    | some sz,some by_,some z=>if by_≤16384∧z.cells.length=sz then opd x fun base=>newsM y fun ys=>appendM d sz base ys else .fail
    | _,_,_ => .fail
  | .copy,[x,y],t::_=>optM ((elemT P t).bind (szT P)) fun s=>opd x fun p=>opd y fun q=>listOf q fun ys=>match p with
    | .bor r pre z lo n=>bif Nat.beq z s&&Nat.blt 0 z&&Nat.ble ys.length n&&ys.all (fun y=>y.plain&&Nat.beq y.cells.length s) then setsAt r pre lo ys (put d (.int .i64 ys.length)) else .fail
    | _ => .fail
  | .clear,[x],t::_=>opd x fun p=>match p,(elemT P t).bind (zeroPV P) with
    | .bor r pre _ lo n,some z => .deep r pre fun q=>match q with
      | .own sz xs =>
        bif Nat.ble (lo+n) xs.length&&Nat.beq z.cells.length sz then
          .wnode r pre (.own sz (xs.take lo++List.replicate n z++xs.drop (lo+n))) (put d .und)
        else .fail
      | _ => .fail
    | _,_ => .fail
  | .max,xs,_=>opds xs fun ps=>match maxV ps with
    | some v=>put d v
    | none => .fail
  | .min,xs,_=>opds xs fun ps=>match minV ps with
    | some v=>put d v
    | none => .fail
  | _,_,_ => .fail
def fillParts (place:Nat→Option (Nat×Nat)):List PV→List (Nat×PV)→Option (List PV)
  | z,[]=>some z
  | z,(i,v)::r=>match place i with
    | some (off,n)=>if v.cells.length=n∧off+n≤z.length∧v.whole=true then fillParts place (z.take off++v.cells++z.drop (off+n)) r else none
    | none=>none
def partsM (place:Nat→Option (Nat×Nat)) (z:List PV) (ps:List (Nat×Operand)) (k:List PV→PM):PM :=
  opdsT (ps.map (·.2)) fun vs=>match fillParts place z ((ps.map (·.1)).zip vs) with
    | some cs=>k cs
    | none => .fail
def elemsM (n:Nat) (z:PV) (ps:List (Nat×PV)):List PV :=
  ps.foldl (fun xs (i,v)=>xs.set i v) (List.replicate n z)
def fieldOf (t:TypeId) (i:Nat):Option Field :=
  match P.underlying t with
  | some (.struct fs)=>fs[i]?
  | _=>none
def stepAt (p:PV) (off:Nat) (sh:Option Nat):Option PV :=
  match p with
  | .ref q=>match sub q off sh with
    | some x=>bif sh.isSome||x.oneCell then some (.ref x) else none
    | none=>none
  | .addr r pre i c (some _)=>some (.addr r pre i (c+off) sh)
  | _=>none
def stepAddr (p:PV) (off:Nat) (sh:Option Nat):Option PV :=
  match sh with
  | some 0=>none
  | sh=>stepAt p off sh
def bndM (x:Option Operand) (n:Nat) (k:Nat→PM):PM :=
  match x with
  | some x=>opd x fun p=>natIdx p k
  | none=>k n
def sliceV (d:Option Nat) (s:Nat) (p:PV) (l h:Nat):PM :=
  match p with
  | .sl xs=>bif Nat.ble l h&&Nat.ble h xs.length&&xs.all (fun x=>Nat.beq x.cells.length s) then put d (.sl ((xs.drop l).take (h-l))) else .fail
  | .bor r pre z a n =>
    bif Nat.beq z s&&Nat.ble l h then
      bif Nat.ble h n then put d (bif Nat.beq l 0||Nat.blt l h then .bor r pre z (a+l) (h-l) else .sl [])
      else .deep r pre fun q=>match q with
        | .own _ xs=>bif Nat.ble (a+h) xs.length then put d (bif Nat.beq l 0||Nat.blt l h then .bor r pre z (a+l) (h-l) else .sl []) else .fail
        | _ => .fail
    else .fail
  | _ => .fail
def sliceA (d:Option Nat) (n s:Nat) (sh:Option Nat) (p:PV) (l h:Nat):PM :=
  bif Nat.ble l h&&Nat.ble h n&&(Nat.beq l 0||Nat.blt l n) then
    match p with
    | .addr r pre i c _=>put d (.bsl r pre i (c+l*s) s sh.isSome (h-l))
    | .ref (.agg cs)=>bif Nat.ble (n*s) cs.length&&chunksOk sh.isSome s (h-l) ((cs.drop (l*s)).take ((h-l)*s))&&(wayss cs).isEmpty then put d (.sl (chunks sh.isSome s (h-l) ((cs.drop (l*s)).take ((h-l)*s)))) else .fail
    | _ => .fail
  else .fail
def sliceM (d:Option Nat) (t:TypeId) (x:Operand) (lo hi mx:Option Operand):PM :=
  match mx with
  | some _ => .fail
  | none=>opd x fun p=>match P.underlying t with
    | some (.array n e)=>match szT P e,shT P e with
      | some s,some sh=>bndM hi n fun h=>bndM lo 0 fun l=>sliceA d n s sh p l h
      | _,_ => .fail
    | some (.slice e)=>match szT P e,lenOf p with
      | some s,some n=>bndM hi n fun h=>bndM lo 0 fun l=>sliceV d s p l h
      | _,_ => .fail
    | _ => .fail
def takeO (p:PV) (k:PV→PM) (k2:PM):PM :=
  match p with
  | .bor r pre _ lo n => .deep r pre fun q=>match q with
    | .own sz xs=>bif Nat.beq lo 0&&Nat.beq n xs.length then .wnode r pre .bad (k (.own sz xs)) else k2
    | _=>k2
  | .bmap r pre => .deep r pre fun q=>match q with
    | .omap es => .wnode r pre .bad (k (.omap es))
    | _=>k2
  | p=>k p
def takeM (p:PV) (k:PV→PM):PM:=takeO p k (iceM ghost icing p k)
def takesM:List PV→(List PV→PM)→PM
  | [],k=>k []
  | p::ps,k=>takeO p (fun q=>takesM ps fun qs=>k (q::qs)) .fail
def settleM (tk:Bool) (p:PV) (k:PV→PM):PM :=
  match p with
  | .agg cs=>bif tk then takesM cs fun cs=>k (.agg cs) else bif cs.any (fun c=>match c with | .bor .. | .bmap .. | .bsl .. => true | _=>false) then iceM ghost icing p k else k p
  | .bsl .. => iceM ghost icing p k
  | .bor .. | .bmap .. => bif tk then takeM p k else iceM ghost icing p k
  | p=>k p
def settlesM (tk:Bool):List PV→(List PV→PM)→PM
  | [],k=>k []
  | p::ps,k=>settleM tk p fun q=>settlesM tk ps fun qs=>k (q::qs)
def cutOf (r:Nat) (pre:Path) (i c:Nat):PV→Option Nat
  | .bor r' q z 0 n=>if r'=r&&q=pre++[(i,c)] then some n else none
  | _=>none
def writeM (r:Nat) (pre:Path) (i c:Nat) (v:PV):PM :=
  bif (!v.heavy||v.ways.all (fun w => !(isUnder r pre w.1 w.2&&Nat.blt pre.length w.2.length)))&&v.cells.all (fun q=>q.oneCell) && !v.cells.isEmpty then killNew r pre i c v.cells (.wcells r pre i c v.cells .ok) else .fail
def settleAt (tk:Bool) (r:Nat) (pre:Path) (v:PV) (k:PV→PM):PM :=
  bif pre.isEmpty && !tk then .view r fun q=>(match q with | .addr .. => k v | _=>settleM tk v k) else settleM tk v k
def storeV (tk:Bool) (r:Nat) (pre:Path) (i c:Nat) (v:PV):PM :=
  match cutOf r pre i c v with
  | some m => .deep r (pre++[(i,c)]) fun q=>match q with
    | .own s xs=>bif Nat.ble m xs.length then .wnode r (pre++[(i,c)]) .bad (writeM r pre i c (.own s ((xs.drop 0).take m))) else .fail
    | _ => .fail
  | none=>settleAt tk r pre v fun v=>writeM r pre i c v
def storeM (fz tk:Bool) (t:TypeId) (a x:Operand):PM :=
  opd a fun pa=>match pa,x with
  | .addr r pre i c _,.const (.slice none 0 0)=>optM ((elemT P t).bind (szT P)) fun s=>if szT P t=some 1 then storeV tk r pre i c (.own s []) else .fail
  | pa,x=>match pa,shT P t,szT P t with
  | .addr r pre i c _,some sh,some n=>(bif fz&&tk then opd x else opdT x) fun v =>
    bif Nat.beq v.cells.length n&&v.isAgg==sh.isSome then storeV (tk && !fz) r pre i c (bif fz && !tk then freeze v else v) else .fail
  | _,_,_ => .fail
def opNil (d:Option Nat) (t:TypeId):PM :=
  match (elemT P t).bind (szT P) with
  | some s=>put d (.own s [])
  | none => .fail
def opMoveTmp (d:Option Nat) (t:TypeId) (s:Nat):PM :=
  match P.underlying t,d with
  | some (.tuple ts),some d' => .get s fun m=>match m with
    | .tup ps=>if ps.length=ts.size∧ts.size≤16 then .set d' .bad (moveParts s d' 0 ts.size) else .fail
    | _ => .fail
  | _,_=>opd (.tmp s) (put d)
def opMove (d:Option Nat) (t:TypeId) (x:Operand):PM :=
  match x with
  | .const (.slice none 0 0)=>opNil P d t
  | .tmp s=>opMoveTmp P d t s
  | x=>opd x (put d)
def assignV (d:Option Nat) (p:PV):PM :=
  match d,p with
  | some d',.bor r [] z lo n=>if r=d' then .get r fun root=>match root with
      | .own sz xs=>bif Nat.ble (lo+n) xs.length then .kill r [] (.set r (.own sz ((xs.drop lo).take n)) .ok) else .fail
      | _ => .fail
    else put d p
  | _,_=>put d p
def opAssign (tk nl:Bool) (d:Option Nat) (t:TypeId) (x:Operand):PM :=
  match x with
  | .const (.slice none 0 0)=>bif nl then optM ((elemT P t).bind (szT P)) fun s=>put d (.nils s) else opNil P d t
  | x=>opdT x fun p=>bif tk then takeM p (assignV d) else assignV d p
def opPick (d:Option Nat) (c a b:Operand):PM:=opd c fun p=>boolOf p fun t=>opd (if t then a else b) (put d)
def opAlloc (d:Option Nat) (t:TypeId):PM:=optM (zeroPV P t) fun z=>put d (.box z)
def opBox (d:Option Nat) (t:TypeId) (x:Operand):PM:=opdT x fun p=>match shT P t,szT P t with
  | some sh,some n=>if p.cells.length=n&&p.isAgg=sh.isSome&&p.whole then put d (.box p) else .fail
  | _,_ => .fail
def opBuild (d:Option Nat) (t:TypeId) (ps:List (Nat×Operand)):PM :=
  match P.underlying t,(zeroPV P t).map PV.cells with
  | some (.struct fs),some z=>bif fs.all (fun f=>(szT P f.type).isSome) then partsM (fun i=>(fs[i]?).bind fun f=>(szT P f.type).map fun n=>(f.offset,n)) z ps (fun cs=>put d (.agg cs)) else .fail
  | some (.array _ e),some z=>optM (szT P e) fun n=>partsM (fun i=>some (i*n,n)) z ps fun cs=>put d (.agg cs)
  | _,_ => .fail
def nilSz:Option PV→Option Nat
  | some (.own s [])=>some s
  | _=>none
def opdN (nz:Option Nat) (x:Operand) (k:PV→PM):PM :=
  match nz,x with
  | some s,.const (.slice none 0 0)=>k (.own s [])
  | _,x=>opdT x k
def opdsN (nz:Option Nat):List Operand→(List PV→PM)→PM
  | [],k=>k []
  | x::xs,k=>opdN nz x fun p=>opdsN nz xs fun ps=>k (p::ps)
def opBuildSlice (tk:Bool) (d:Option Nat) (t:TypeId) (n:Nat) (ps:List (Nat×Operand)):PM :=
  match elemT P t with
  | some e=>match szT P e,zeroPV P e with
    | some s,some z=>if n*s≤65536&&Nat.beq z.cells.length s&&ps.all (fun x=>x.1<n) then opdsN (nilSz (zeroPV P e)) (ps.map (·.2)) fun vs=>settlesM tk vs fun vs =>
        if (wayss vs).isEmpty&&vs.all (fun v=>v.cells.length=s&&v.isAgg=z.isAgg&&v.whole) then put d (.own s (elemsM n z ((ps.map (·.1)).zip vs))) else .fail
      else .fail
    | _,_ => .fail
  | none => .fail
def loadV (d:Option Nat) (sh:Option Nat) (p:PV):PM :=
  match p with
  | .ref q=>if q.isAgg=sh.isSome&&q.cells.length=sh.getD 1 then put d q else .fail
  | .addr r pre i c _=>readM r pre i c sh (put d)
  | _ => .fail
def opLoad (tk:Bool) (d:Option Nat) (t:TypeId) (a:Operand):PM:=optM (shT P t) fun sh=>opd a fun p =>
  bif tk then (match p with
    | .addr r pre i c _=>readM r pre i c sh fun v=>iceM ghost icing v (put d)
    | p=>loadV d sh p) else loadV d sh p
def nilV (d:Option Nat) (p:PV):PM :=
  match p with
  | .addr .. | .ref _ | .func .. | .yld _=>put d p
  | _ => .fail
def opBin (d:Option Nat) (op:BinOp) (t:TypeId) (x y:Operand):PM:=opd x fun p=>opd y fun q=>optM (binV P op t p q) (put d)
def unV (d:Option Nat) (op:UnOp) (p:PV):PM :=
  match op,p with
  | .not,.bool b=>put d (.bool !b)
  | .neg,.int k n=>put d (.int k (k.wrap (0-n)))
  | _,_ => .fail
def convV (d:Option Nat) (t:TypeId) (p:PV):PM :=
  match P.underlying t,p with
  | some (.int k),.int _ n=>put d (.int k (k.wrap n))
  | _,_ => .fail
def opMakeFunc (d:Option Nat) (f:FuncId) (first caps:List Operand):PM:=opds first fun a=>opds caps fun b=>put d (.func f a b)
def opMakeSlice (d:Option Nat) (t:TypeId) (l c:Operand):PM :=
  opd l fun l=>natIdx l fun l=>opd c fun c=>natIdx c fun c=>match elemT P t with
  | some e=>match zeroPV P e,szT P e,bytesT P e with
    | some z,some s,some b=>if l≤c∧c≤limit∧b≤16384∧z.cells.length=s then put d (.own s (List.replicate l z)) else .fail
    | _,_,_ => .fail
  | none => .fail
def opFieldAddr (d:Option Nat) (t:TypeId) (x:Operand) (i:Nat):PM :=
  opd x fun p=>optM (fieldOf P t i) fun f=>optM (shT P f.type) fun sh=>optM (stepAddr p f.offset sh) (put d)
def opField (d:Option Nat) (t:TypeId) (x:Operand) (i:Nat):PM :=
  opd x fun p=>optM (fieldOf P t i) fun f=>optM (shT P f.type) fun sh=>optM (sub p f.offset sh) (put d)
def idxArr (d:Option Nat) (n:Nat) (e:TypeId) (p:PV) (i:Nat):PM :=
  match szT P e,shT P e with
  | some s,some sh=>if i<n then optM (stepAddr p (i*s) sh) (put d) else .fail
  | _,_ => .fail
def idxSl (d:Option Nat) (e:TypeId) (p:PV) (i:Nat):PM :=
  match p with
  | .sl xs=>optM (xs[i]?) fun x=>if szT P e=some x.cells.length then put d (.ref x) else .fail
  | .bor r pre z lo n=>match shT P e with
    | some sh=>if i<n∧szT P e=some z then put d (.addr r pre (lo+i) 0 sh) else .fail
    | none => .fail
  | .bsl r pre j c s ag n=>if i<n∧szT P e=some s then put d (.addr r pre j (c+i*s) (if ag then some s else none)) else .fail
  | _ => .fail
def opIndexAddr (d:Option Nat) (t:TypeId) (x i:Operand):PM :=
  opd x fun p=>opd i fun i=>natIdx i fun i=>match P.underlying t with
  | some (.array n e)=>idxArr P d n e p i
  | some (.slice e)=>idxSl P d e p i
  | _ => .fail
def opIndex (d:Option Nat) (t:TypeId) (x i:Operand):PM :=
  opd x fun p=>opd i fun i=>natIdx i fun i=>match P.underlying t with
  | some (.array n e)=>match szT P e,shT P e with
    | some s,some sh=>if i<n then optM (sub p (i*s) sh) (put d) else .fail
    | _,_ => .fail
  | _ => .fail
def PV.flat:PV→Bool
  | .agg cs=>cs.all PV.num
  | p=>p.num
def PV.lone0:PV→Bool
  | .int .. | .bool .. | .nilp | .nilf | .nilm | .nils _ | .sl .. | .map .. => true
  | _=>false
def PV.lone:PV→Bool
  | .agg cs=>cs.all PV.lone0
  | p=>p.lone0
def keyFs (ok:TypeId→PV→Bool) (sh:TypeId→Option (Option Nat)) (p:PV):List Field→Bool
  | []=>true
  | f :: fs => (if f.name = "_" then true else match sh f.type with
    | some s=>match sub p f.offset s with
      | some a=>ok f.type a
      | none=>false
    | none=>false)&&keyFs ok sh p fs
def keyEs (ok:PV→Bool) (sh:Option Nat) (sz:Nat) (p:PV):Nat→Nat→Bool
  | _,0=>true
  | i,n+1=>(match sub p (i*sz) sh with
    | some a=>ok a
    | none=>false)&&keyEs ok sh sz p (i+1) n
def keyT:Nat→TypeId→PV→Bool
  | 0,_,_=>false
  | n + 1,t,p =>
    match P.underlying t,p with
    | some (.int _),.int .. => true
    | some .bool,.bool _=>true
    | some (.struct fs),.agg xs=>keyFs (keyT n) (shT P) (.agg xs) fs.toList
    | some (.array len e),.agg xs=>match szT P e,shT P e with
      | some sz,some sh=>keyEs (keyT n e) sh sz (.agg xs) 0 len
      | _,_=>false
    | _,_=>false
def findK (kt:TypeId) (key:PV):List (PV×PV)→Nat→Option (Option Nat)
  | [],_=>some none
  | (k,_)::es,i=>match eqT P 20 kt key k with
    | some true=>match eqCells key.cells k.cells with
      | some true=>some (some i)
      | _=>none
    | some false=>findK kt key es (i+1)
    | none=>none
def foundV (d:Option Nat) (kt:TypeId) (z key:PV) (ok:Bool) (es:List (PV×PV)):PM :=
  match findK P kt key es 0 with
  | some (some i)=>match es[i]? with
    | some (_,v)=>bif v.lone then putRes d (if ok then .tup [v,.bool true] else v) else .fail
    | none => .fail
  | some none=>putRes d (if ok then .tup [z,.bool false] else z)
  | none => .fail
def lookV (d:Option Nat) (kt:TypeId) (z key:PV) (ok:Bool) (m:PV):PM :=
  match m with
  | .nilm=>foundV P d kt z key ok []
  | .map es=>foundV P d kt z key ok es
  | .bmap r pre => .deep r pre fun q=>match q with
    | .omap es=>foundV P d kt z key ok es
    | _ => .fail
  | _ => .fail
def opLookup (d:Option Nat) (t:TypeId) (m x:Operand) (ok:Bool):PM :=
  opd m fun m=>opd x fun key=>match P.underlying t with
  | some (.map kt e)=>bif keyT P 20 kt key then optM (zeroPV P e) fun z=>bif z.lone then lookV P d kt z key ok m else .fail else .fail
  | _ => .fail
def mapUpd (kt:TypeId) (key v m:PV):PM :=
  match m with
  | .bmap r pre=>bif v.lone then .deep r pre fun q=>match q with
    | .omap es=>match findK P kt key es 0 with
      | some (some i) => .wnode r pre (.omap (es.modify i fun _=>(key,v))) .ok
      | some none => .wnode r pre (.omap (es++[(key,v)])) .ok
      | none => .fail
    | _ => .fail else .fail
  | _ => .fail
def opMapUpdate (t:TypeId) (m x y:Operand):PM:=opd m fun m=>opd x fun key=>match P.underlying t with
  | some (.map kt _)=>bif keyT P 20 kt key&&key.flat then opdT y fun v=>iceM ghost icing v fun v=>mapUpd P kt key (freeze v) m else .fail
  | _ => .fail
def opExtract (d:Option Nat) (s i:Nat):PM := .get s fun m=>match m with
  | .tup ps=>bif Nat.blt i ps.length then .get (vslot s i) fun p=>bif p.heavy then .set (vslot s i) .bad (put d p) else put d p else .fail
  | _ => .fail
def callV (d:Option Nat) (args:List Operand) (g:PV):PM :=
  match g with
  | .func g first caps=>opds args fun as=>callM H d g (first++as++caps)
  | _ => .fail
def opCall (d:Option Nat) (c:Call):PM :=
  match c.callee with
  | .builtin b=>builtinM P d b c.argTypes.toList c.args.toList
  | .value f=>opd f (callV H d c.args.toList)
  | _ => .fail
def opM (fz tk nl:Bool) (o:Oper):PM :=
  match o.op with
  | .move x=>opMove P o.dst o.type x
  | .assign x=>opAssign P tk nl o.dst o.type x
  | .pick c a b=>opPick o.dst c a b
  | .alloc t=>opAlloc P o.dst t
  | .box t x=>opBox P o.dst t x
  | .build t ps=>opBuild P o.dst t ps.toList
  | .buildSlice t n ps=>opBuildSlice P tk o.dst t n ps.toList
  | .load t a=>opLoad P tk o.dst t a
  | .store t a x=>storeM P fz tk t a x
  | .nilCheck x=>opd x (nilV o.dst)
  | .binOp op t x y _=>opBin P o.dst op t x y
  | .unOp op _ x=>opd x (unV o.dst op)
  | .convert _ t x=>opd x (convV P o.dst t)
  | .makeFunc (.func f) first caps=>opMakeFunc o.dst f first.toList caps.toList
  | .makeMap _ none=>put o.dst (.omap [])
  | .makeSlice t l c=>opMakeSlice P o.dst t l c
  | .slice t x lo hi mx=>sliceM P o.dst t x lo hi mx
  | .fieldAddr t x i=>opFieldAddr P o.dst t x i
  | .field t x i=>opField P o.dst t x i
  | .indexAddr t x i=>opIndexAddr P o.dst t x i
  | .index t x i=>opIndex P o.dst t x i
  | .lookup t m x ok=>opLookup P o.dst t m x ok
  | .mapUpdate t m x y=>opMapUpdate P t m x y
  | .extract (.tmp s) i=>opExtract o.dst s i
  | .call c=>opCall P H o.dst c
  | _ => .fail
def operM (ops:Array Oper) (fz tk nl:Bool) (o:Oper):PM :=
  match o.guard with
  | none=>opM P H fz tk nl o
  | some (j,want)=>match (ops[j]?).bind (·.dst) with
    | some t => .get t fun p=>match p with
      | .bool b=>if b=want then opM P H fz tk nl o else put o.dst .und
      | .und=>put o.dst .und
      | _ => .fail
    | none => .fail
structure Log where
  xs:List (List PV)
  k:Int
  at_:Nat
  deriving Inhabited
def opdV (e:Env):Operand→PV
  | .tmp t=>view t (e.get t)
  | .const v=>constPV v
  | _ => .bad
def yieldArgs (e:Env) (o:Oper):Option (Nat×List PV) :=
  match o.op with
  | .call c=>match c.callee with
    | .value (.tmp t)=>match e.get t with
      | .yld h=>some (h,c.args.toList.map (opdV e))
      | _=>none
    | _=>none
  | _=>none
def wants (ops:Array Oper) (e:Env) (o:Oper):Option Bool :=
  match o.guard with
  | none=>some true
  | some (j,want)=>match (ops[j]?).bind (·.dst) with
    | some t=>match e.get t with
      | .bool b=>some (b==want)
      | .und=>some false
      | _=>none
    | none=>none
def yieldRun (orc:Oracle) (ops:Array Oper) (o:Oper) (h:Nat) (args:List PV) (l:Log) (e:Env):Option (Env×Option Log) :=
  match wants ops e o with
  | some true=>bif args.all PV.flat&&l.k != 0&&Nat.beq h l.at_ then
      (bif l.k==1 then (put o.dst (.bool false)).run orc (e.forget ghost) else (put o.dst (.bool true)).run orc e).map fun e'=>(e',some ⟨l.xs++[args],l.k-1,l.at_⟩)
    else none
  | some false=>((put o.dst .und).run orc e).map fun e'=>(e',some l)
  | none=>none
def stepR (orc:Oracle) (fz tk nl:Bool) (ops:Array Oper) (o:Oper) (e:Env) (lg:Option Log):Option (Env×Option Log) :=
  match lg with
  | none=>((operM P H ops fz tk nl o).run orc e).map fun e'=>(e',none)
  | some l=>match yieldArgs e o with
    | some (h,args)=>yieldRun orc ops o h args l e
    | none=>((operM P H ops fz tk nl o).run orc e).map fun e'=>(e',some l)
def stepT (orc:Oracle) (fz tk nl:Bool) (ops:Array Oper) (o:Oper) (e:Env) (lg:Option Log):Option (Env×Option Log×Tok) :=
  match lg with
  | none=>((operM P H ops fz tk nl o).runT orc e).map fun x=>(x.1,none,x.2)
  | some l=>match yieldArgs e o with
    | some (h,args)=>(yieldRun orc ops o h args l e).map fun x=>(x.1,x.2,{all:=true})
    | none=>((operM P H ops fz tk nl o).runT orc e).map fun x=>(x.1,some l,x.2)
def regionRun (orc:Oracle) (fzs tks:List Nat) (nl:Bool) (ops:Array Oper):List Oper→Nat→Env→Option Log→Option (Env×Option Log)
  | [],_,e,lg=>some (e,lg)
  | o::l,i,e,lg=>match stepR P H orc (fzs.contains i) (tks.contains i) nl ops o e lg with
    | some (e',lg')=>regionRun orc fzs tks nl ops l (i+1) e' lg'
    | none=>none
def bitsOf (acc:List Nat) (o:Oper):Nat:=o.after.toList.foldl (fun s e=>if Region.binds .any e then s ||| 2 ^ e.on ||| acc.getD e.on 0 else s) 0
def apartAll (b:Nat) (t:Tok):Nat→List Tok→Bool
  | _,[]=>true
  | j,u::us=>(b.testBit j || !clash u t)&&apartAll b t (j+1) us
def drawRun (orc:Oracle) (fzs tks:List Nat) (nl:Bool) (ops:Array Oper):List Oper→Nat→List Nat→List Tok→Env→Option Log→Option (Env×Option Log)
  | [],_,_,_,e,lg=>some (e,lg)
  | o :: l,i,acc,ts,e,lg =>
    match stepT P H orc (fzs.contains i) (tks.contains i) nl ops o e lg with
    | some (e',lg',t) =>
      bif o.after.toList.all (fun e => !Region.binds .any e||Nat.blt e.on i)&&apartAll (bitsOf acc o) t 0 ts then drawRun orc fzs tks nl ops l (i+1) (acc++[bitsOf acc o]) (ts++[t]) e' lg' else none
    | none=>none
inductive X where
  | norm | ex (id:Nat) | ret
  deriving DecidableEq
def inDrop (l:List Nat) (s:Nat):Bool:=l.contains (if 2000000≤s then (s-2000000) / 16 else s)
def Env.drop (e:Env) (l:List Nat):Env :=
  e.filter fun x => !inDrop l x.1
def Env.put (e:Env) (k:Nat) (v:PV):Env :=
  match v with
  | .bad=>e.filter fun x => !Nat.beq x.1 k
  | v=>e.set k v
def Env.norm:Env→Env
  | []=>[]
  | (k,v)::e=>(Env.norm e).put k v
def firstRegion:Code→Nat
  | .region id _ _=>id
  | .seq a _=>firstRegion a
  | .block _ b=>firstRegion b
  | .loop b=>firstRegion b
  | _=>0
def dstsOf:Code→List Nat
  | .region _ ops _=>ops.toList.filterMap (·.dst)
  | .seq a b=>dstsOf a++dstsOf b
  | .cond _ a b=>dstsOf a++dstsOf b
  | .block _ b=>dstsOf b
  | .loop b=>dstsOf b
  | .scope b=>dstsOf b
  | _=>[]
def setParams:List Tmp→List PV→Env→Option Env
  | [],[],e=>some e
  | t::ts,v::vs,e=>if (e.get t).heavy then none else setParams ts vs (e.set t v)
  | _,_,_=>none
def frzAll:List Nat→Env→Option Env
  | [],e=>some e
  | r::R,e=>bif Nat.blt r ghost then match e.frz r [] with
    | some e'=>frzAll R e'
    | none=>none
    else none
def lookInto (e:Env) (R:List Nat):List Nat:=R++(e.filter fun x=>x.2.heavy && !R.contains x.1&&x.2.ways.any fun w=>R.contains w.1).map (·.1)
def closedIn (e:Env) (R:List Nat):Bool:=R.all fun r=>(e.get r).ways.all fun w=>R.contains w.1
def after (nt:Nat) (R ds:List Nat) (e0 e:Env):Env:=e0.map fun x =>
  (x.1,bif R.contains x.1 || !x.2.heavy&&x.2.ways.all (fun w=>R.contains w.1) then x.2 else bif !(Nat.blt x.1 nt && !ds.contains x.1||Nat.ble hidBase x.1&&Nat.blt x.1 outBase) then .bad else bif (R.isEmpty||(e.get x.1).free) && !(e.get x.1).isTup then e.get x.1 else .bad)
def rounds (nt:Nat) (run:Code→Env→Option (X×Env)) (ps:List Tmp) (assign body:Code) (R ds:List Nat):List (List PV)→Env→Nat→Option (Option (Nat×X)×Env)
  | [],e,_=>some (none,e)
  | x :: xs,e,j =>
    let round (e:Env):Option (X×Env):=match setParams ps x e with
      | some e1=>match run assign e1 with
        | some (.norm,e2)=>run body e2
        | _=>none
      | none=>none
    match round e with
    | some (.norm,e3)=>match R with
      | []=>rounds nt run ps assign body R ds xs (after nt [] ds e e3) (j+1)
      | r :: R=>match (bif closedIn e (lookInto e (r::R)) then frzAll (lookInto e (r::R)) e else none) with
        | some e1=>match round e1 with
          | some (.norm,e3)=>rounds nt run ps assign body (r::R) ds xs (after nt (lookInto e (r::R)) ds e e3) (j+1)
          | _=>none
        | none=>none
    | some (r,e3)=>some (some (j+1,r),after nt [] ds e e3)
    | none=>none
def closureOf (e:Env) (t:Nat):Option (FuncId×List PV×List PV×List Nat) :=
  match (share (view t (e.get t)) fun q l => .set 0 (.tup [q]) (.set 1 (.tup (l.map fun x => .int .i64 x.1)) .ok)).run (fun _ _ _=>none) e with
  | some e'=>match e'.get 0,e'.get 1 with
    | .tup [.func g first caps],.tup l=>some (g,first,caps,(l.filterMap fun | .int _ n=>some n.toNat | _=>none).eraseDups)
    | _,_=>none
  | none=>none
abbrev Yields:=FuncId→List PV→Nat→List PV→Int→Option (List (List PV))
abbrev All:=(Nat→Option (List (List PV)))→Option (List (List PV))
def ranged (nt:Nat) (yo:Yields) (al:All) (run:Code→Env→Option (X×Env)) (t:Tmp) (ps:List Tmp) (assign body:Code) (e:Env):Option (X×Env) :=
  match closureOf e t with
  | some (g,first,caps,R) =>
    match al (fun i=>yo g first i caps (-1)) with
    | some xs=>match rounds nt run ps assign body R (ps++dstsOf assign++dstsOf body) xs e 0 with
      | some (none,e')=>some (.norm,e')
      | some (some (j,_),_)=>match al (fun i=>yo g first i caps j) with
        | some ys=>match rounds nt run ps assign body R (ps++dstsOf assign++dstsOf body) ys e 0 with
          | some (some (j',r),e')=>if j'=j∧ys.length=j then some (r,e') else none
          | _=>none
        | none=>none
      | none=>none
    | none=>none
  | none=>none
def exec (orc:Oracle) (yo:Yields) (al:All) (nt:Nat) (h:FHint):Nat→Code→Env→Option Log→Option (X×Env×Option Log)
  | 0,_,_,_=>none
  | n + 1,c,e,lg=>match c with
    | .skip=>some (.norm,e,lg)
    | .region id ops draw=>match (if draw then drawRun P H orc (h.frzs id) (h.take id) h.nils ops ops.toList 0 [] [] e lg else regionRun P H orc (h.frzs id) (h.take id) h.nils ops ops.toList 0 e lg) with
      | some (e',lg')=>some (.norm,(e'.drop (h.drop id)).norm,lg')
      | none=>none
    | .seq a b=>match exec orc yo al nt h n a e lg with
      | some (.norm,e',lg')=>exec orc yo al nt h n b e' lg'
      | r=>r
    | .cond c a b=>match c with
      | .tmp t=>match e.get t with
        | .bool true=>exec orc yo al nt h n a e lg
        | .bool false=>exec orc yo al nt h n b e lg
        | _=>none
      | .const (.bool true)=>exec orc yo al nt h n a e lg
      | .const (.bool false)=>exec orc yo al nt h n b e lg
      | _=>none
    | .block id b=>match exec orc yo al nt h n b e lg with
      | some (.ex id',e')=>some (if id'=id then .norm else .ex id',e')
      | r=>r
    | .loop b=>match exec orc yo al nt h n b (e.drop (h.loopDrop (firstRegion b))) lg with
      | some (.norm,e',lg')=>exec orc yo al nt h n (.loop b) e' lg'
      | r=>r
    | .exit id=>some (.ex id,e,lg)
    | .ret=>some (.ret,e,lg)
    | .label _=>some (.norm,e,lg)
    | .scope b=>exec orc yo al nt h n b e lg
    | .rangeFunc (.tmp t) ps assign body=>match lg with
      | none=>(ranged nt yo al (fun c e=>match exec orc yo al nt h n c e none with | some (x,e',none)=>some (x,e') | _=>none) t ps.toList assign body e).map fun x=>(x.1,x.2,none)
      | some _=>none
    | _=>none
def grabM (p:PV) (k:PV→PM) (k2:PM):PM :=
  match p with
  | .bor r pre _ lo n => .deep r pre fun q=>match q with
    | .own sz xs=>bif Nat.ble (lo+n) xs.length then .wnode r pre .bad (k (.own sz ((xs.drop lo).take n))) else k2
    | _=>k2
  | .addr r pre 0 0 _ => .deep r pre fun q=>match q with
    | .box q => .wnode r pre .bad (k (.box q))
    | _=>k2
  | .bmap r pre => .deep r pre fun q=>match q with
    | .omap es => .wnode r pre .bad (k (.omap es))
    | _=>k2
  | _=>k2
def exportM (frz:Bool) (p:PV) (k:PV→PM):PM :=
  bif frz||p.ways.any (fun w=>Nat.ble hidBase w.1) then iceM hidBase icing p k else grabM p k (iceM hidBase icing p k)
def exportCells (frz:Bool):List PV→(List PV→PM)→PM
  | [],k=>k []
  | p::ps,k=>exportM frz p fun q=>exportCells frz ps fun qs=>k (q::qs)
def exportV (frz:Bool) (p:PV) (k:PV→PM):PM :=
  match p with
  | .agg cs=>exportCells frz cs fun qs=>k (.agg qs)
  | p=>exportM frz p k
def resultM (frz:Bool):Nat→List ResultVar→PM
  | _,[] => .ok
  | j,.tmp t::rs => .view t fun p=>exportV frz p fun q=>lay (outBase+j) q (resultM frz (j+1) rs)
  | j,.cell a t::rs=>optM (shT P t) fun sh => .view a fun p=>match p with
    | .addr r pre i c _=>readM r pre i c sh fun v=>exportV frz v fun q=>lay (outBase+j) q (resultM frz (j+1) rs)
    | _ => .fail
def outs (e:Env) (n:Nat):PV :=
  if n=1 then e.get outBase else .tup ((List.range n).map fun j=>e.get (outBase+j))
def enterEnv (args hid:List PV):Env :=
  (args.zipIdx.map fun (p,i)=>(i,p))++hid.zipIdx.map fun (p,j)=>(hidBase+j,p)
def intsOf (xs:List PV):Option (List Int):=xs.mapM fun | .int .i64 n=>some n | _=>none
def intrin (fn:Func) (w:Nat) (args hid:List PV):Option (PV×List PV) :=
  match w,args,hid with
  | 1,[.sl xs],[]=>match (fn.resultTypes[0]?).bind (fun t=>(elemT P t).bind (szT P)) with
    | some sz=>if xs.all (fun x=>x.plain&&x.cells.length=sz)&&xs.length≤limit then some (.own sz xs,[]) else none
    | none=>none
  | 1,[.nils _],[]=>match (fn.resultTypes[0]?).bind (fun t=>(elemT P t).bind (szT P)) with
    | some sz=>some (.own sz [],[])
    | none=>none
  | 2,[.bor r pre z lo n],root::ws=>match getNode root pre with
    | some (.own sz xs)=>match intsOf ((xs.drop lo).take n) with
      | some is=>match modNode (fun _=>some (.own sz (xs.take lo++(is.mergeSort (fun a b=>decide (a≤b))).map (.int .i64)++xs.drop (lo+n)))) root pre with
        | some root'=>if r=hidBase&&lo+n≤xs.length then some (.tup [],root'::ws) else none
        | none=>none
      | none=>none
    | _=>none
  | 3,[.own sz xs,.int _ i,.int _ j],[] =>
    bif decide (0≤i)&&decide (i≤j)&&Nat.ble j.toNat xs.length then some (.own sz (xs.take i.toNat++xs.drop j.toNat),[]) else none
  | 5,[.int .u64 n],[]=>some (.int .i64 (if n≤0 then 0 else Nat.log2 n.toNat+1),[])
  | 2,[.nils _],[]=>some (.tup [],[])
  | 2,[.sl xs],[]=>if xs.length≤1 then some (.tup [],[]) else none
  | _,_,_=>none
def runBody (orc:Oracle) (yo:Yields) (al:All) (n:Nat) (f:FuncId) (fn:Func) (body:Code) (args hid:List PV):Option (PV×List PV) :=
  bif Nat.ble args.length fn.ntmps&&Nat.ble hid.length 1000&&args.all (fun p => !p.isTup) then
    match exec P H orc yo al fn.ntmps (H f) n body (enterEnv args hid) none with
    | some (.norm,e,none) | some (.ret,e,none) =>
      match (resultM P (H f).frz 0 fn.results.toList).run orc e with
      | some e'=>bif Nat.beq fn.results.size 1&&(e'.get outBase).isTup then none else some (outs e' fn.results.size,(List.range hid.length).map fun j=>e'.get (hidBase+j))
      | none=>none
    | _=>none
  else none
def runFn (orc:Oracle) (yo:Yields) (al:All) (n:Nat) (f:FuncId) (args hid:List PV):Option (PV×List PV) :=
  match P.funcs[f]? with
    | some fn=>if (H f).intr≠0 then intrin P fn (H f).intr args hid else match fn.body with
      | some body=>runBody P H orc yo al n f fn body args hid
      | none=>none
    | none=>none
def runY (orc:Oracle) (yo:Yields) (al:All) (n:Nat) (f:FuncId) (first:List PV) (i:Nat) (caps:List PV) (k:Int):Option (List (List PV)) :=
  match P.funcs[f]? with
    | some fn=>match fn.body with
      | some body=>bif Nat.ble (first++PV.yld i::caps).length fn.ntmps&&fn.results.isEmpty&&(first++caps).all (fun p => !p.isTup)&&k != 0&&Nat.beq (H f).intr 0 then
          match exec P H orc yo al fn.ntmps (H f) n body (enterEnv (first++PV.yld i::caps) []) (some ⟨[],k,i⟩) with
          | some (.norm,_,some l) | some (.ret,_,some l)=>some l.xs
          | _=>none
        else none
      | none=>none
    | none=>none
def calls (al:All):Nat→Oracle×Yields
  | 0=>(fun _ _ _=>none,fun _ _ _ _ _=>none)
  | n+1=>(fun f args hid=>runFn P H (calls al n).1 (calls al n).2 al (n+1) f args hid,fun f first i caps k=>runY P H (calls al n).1 (calls al n).2 al (n+1) f first i caps k)
abbrev tcalls:=calls P H (fun x=>x 0)
open Classical in
noncomputable def always:All:=fun x=>if h:∃ r,∀ i,x i=some r then some (Classical.choose h) else none
class Yo where
  yo:Yields
noncomputable def pcall [Yo]:Nat→Oracle
  | 0=>fun _ _ _=>none
  | n+1=>fun f args hid=>runFn P H (pcall n) Yo.yo always (n+1) f args hid
end Go.Eng
namespace Go.Eng
def tabN:List (Nat×List Nat)→Nat→List Nat
  | [],_=>[]
  | (k,l)::r,i=>bif Nat.beq k i then l else tabN r i
def hintN:List (Nat×FHint)→Nat→FHint
  | [],_=>{}
  | (k,h)::r,i=>bif Nat.beq k i then h else hintN r i
end Go.Eng
namespace Go.Eng
open Go
def feeH.h3:FHint:={drop:=tabN [(0,[4]),(1,[10,11]),(2,[13]),(3,[14]),(4,[17,18,21]),(5,[0,23,24,27]),(6,[1,5,6,7,8,9,28,29,30,31,32,33,34,35,36,37,38,39,40,41,42,43])]}
def feeH.h4:FHint:={drop:=tabN [(0,[8]),(1,[0,24,25,26]),(2,[1,27,28,29]),(3,[2,31]),(5,[33]),(7,[37,38,39,40,41,42,43]),(8,[45]),(9,[46,47]),(10,[50,51,52,55,56]),(11,[16,57,58,59,60,61,62,63,64,65,66,67,68,69,70,71]),(13,[15,73]),(16,[78,79,80]),(17,[81,82,83,84,85,86,87,88]),(18,[18,19,89,90,91,92,93,94,95,96,97,98,99,100,101,102,103,104,105,106,107,108,109,110,111,112,113,114,115,116,117,118,119,120,121,122,123,124,125,126,127,128,129,130,131,132,133,134,135,136,137,138,139,140,141,142,143,144,145,146,147,148,149,150]),(20,[152]),(21,[12,153]),(22,[3,155,156,157,158,159]),(23,[160,161,162,163,164,165]),(24,[10,20,23,167,168,169,172,173]),(25,[14,16,17,21,22,174,175,176,177,178,179,180,181,182,183,184,185,186,187,188,189,190,191,192,193,194,195,196,197,198,199,200])],loopDrop:=tabN [(6,[36,37,38,39,40,41,42,43,45]),(15,[8,18,19,77,78,79,80,81,82,83,84,85,86,87,88,89,90,91,92,93,94,95,96,97,98,99,100,101,102,103,104,105,106,107,108,109,110,111,112,113,114,115,116,117,118,119,120,121,122,123,124,125,126,127,128,129,130,131,132,133,134,135,136,137,138,139,140,141,142,143,144,145,146,147,148,149,150,151,152])],take:=tabN [(13,[1])],frzs:=tabN [(1,[4])]}
def feeH.h5:FHint:={drop:=tabN [(0,[4]),(1,[0,16]),(4,[18]),(6,[22,23,24,25,26]),(7,[27,28,29,30,31,32]),(8,[34,35,36]),(9,[37,38,39]),(10,[8,41,42,43]),(11,[44]),(12,[46,47,48,51]),(13,[52]),(14,[10,54,55,56,57,58]),(15,[10,59,60,61,62,63,64,65,66]),(20,[72,73,74]),(21,[75,76,77,78,79,80,81]),(23,[83,84,85]),(24,[86,87,88,89,90,91,92]),(25,[14,93,94,95,96,97,98,99,100,101,102,103,104,105,106,107]),(29,[112]),(30,[15,113,114,115,116,117,118,119,120,121,122,123,124,125,126,127,128,129,130,131,132,133,134,135,136,137,138,139,140,141,142,143,144,145,146,147]),(32,[149]),(33,[150]),(34,[1,11,151,152,153,154,155,156,157])],loopDrop:=tabN [(5,[8,21,22,23,24,25,26,27,28,29,30,31,32,33,34,35,36,37,38,39,41,42,43,44]),(19,[4,12,13,14,15,71,72,73,74,75,76,77,78,79,80,81,82,83,84,85,86,87,88,89,90,91,92,93,94,95,96,97,98,99,100,101,102,103,104,105,106,107,108,109,110,111,112,113,114,115,116,117,118,119,120,121,122,123,124,125,126,127,128,129,130,131,132,133,134,135,136,137,138,139,140,141,142,143,144,145,146,147,148,149,150]),(28,[4,15,111,112,113,114,115,116,117,118,119,120,121,122,123,124,125,126,127,128,129,130,131,132,133,134,135,136,137,138,139,140,141,142,143,144,145,146,147,148,149])]}
def feeH.h6:FHint:={drop:=tabN [(0,[0,4]),(1,[22,23,24,25,26,27]),(2,[29]),(3,[30,31,32,33,34]),(4,[37,38,41]),(5,[43,44,47]),(6,[9,11,48,49,50,51,52,53,54,55,56]),(10,[62,63,64]),(11,[12,65,66,67,68,69]),(13,[71]),(14,[73,74,77]),(15,[79,80,83]),(16,[9,11,84,85,86,87,88,89,90,91,92]),(20,[98,99,100]),(21,[16,101,102,103,104,105]),(23,[107]),(24,[109,110,113,114]),(25,[116,117,120,121]),(26,[1,7,9,11,18,19,20,21,122,123,124,125,126,127,128,129,130,131,132,133,134,135,136,137,138,139,140,141,142,143,144,145,146,147])],loopDrop:=tabN [(9,[4,12,13,61,62,63,64,65,66,67,68,69,70,71]),(19,[4,16,17,97,98,99,100,101,102,103,104,105,106,107])]}
def feeH.h7:FHint:={drop:=tabN [(0,[4]),(1,[0,23,24,25]),(2,[1,26,27,28]),(3,[31,32,35]),(4,[37,38,41]),(5,[42,43]),(6,[8,10,45,46,47,48,49,50,51,52,53]),(10,[59,60,61]),(11,[62]),(13,[66]),(14,[67]),(15,[69,70,71,72]),(16,[15,73,74]),(17,[14,16,76,77,78,79,80,81,82,83,84,85,86,87,88,89,90,91,92,93,94,95,96,97,98]),(19,[100]),(20,[101,102]),(21,[103,104,105]),(22,[107,108]),(23,[109]),(24,[111,112,113,114,115,116,117,118,119,120,121]),(25,[18,122,123]),(26,[19,125,126,127,128,129,130,131,132,133,134,135,136,137,138,139,140,141,142,143,144,145,146,147,148,149,150,151,152,153,154,155,156,157,158,159,160,161]),(27,[20,162,163,164,165,166,167]),(29,[169]),(30,[170]),(32,[174]),(33,[21,175,176,177,178,179,180,181,182,183,184,185,186,187,188,189,190,191,192,193,194,195,196,197,198,199,200,201,202,203,204,205,206,207,208,209,210,211,212,213,214,215,216,217]),(35,[219]),(36,[220]),(38,[224]),(39,[22,225,226,227,228,229,230,231,232,233,234,235,236,237,238,239,240,241,242,243,244,245,246,247,248,249,250,251,252,253,254,255,256,257,258,259,260,261,262,263,264,265,266,267]),(41,[269]),(42,[270])],loopDrop:=tabN [(9,[4,12,13,14,15,16,17,18,19,20,58,59,60,61,62,63,64,65,66,67,68,69,70,71,72,73,74,75,76,77,78,79,80,81,82,83,84,85,86,87,88,89,90,91,92,93,94,95,96,97,98,99,100,101,102,103,104,105,106,107,108,109,110,111,112,113,114,115,116,117,118,119,120,121,122,123,124,125,126,127,128,129,130,131,132,133,134,135,136,137,138,139,140,141,142,143,144,145,146,147,148,149,150,151,152,153,154,155,156,157,158,159,160,161,162,163,164,165,166,167,168,169]),(12,[4,14,15,16,65,66,67,68,69,70,71,72,73,74,75,76,77,78,79,80,81,82,83,84,85,86,87,88,89,90,91,92,93,94,95,96,97,98,99,100]),(21,[4,18,19,20,103,104,105,106,107,108,109,110,111,112,113,114,115,116,117,118,119,120,121,122,123,124,125,126,127,128,129,130,131,132,133,134,135,136,137,138,139,140,141,142,143,144,145,146,147,148,149,150,151,152,153,154,155,156,157,158,159,160,161,162,163,164,165,166,167,168]),(31,[4,21,173,174,175,176,177,178,179,180,181,182,183,184,185,186,187,188,189,190,191,192,193,194,195,196,197,198,199,200,201,202,203,204,205,206,207,208,209,210,211,212,213,214,215,216,217,218,219]),(37,[4,22,223,224,225,226,227,228,229,230,231,232,233,234,235,236,237,238,239,240,241,242,243,244,245,246,247,248,249,250,251,252,253,254,255,256,257,258,259,260,261,262,263,264,265,266,267,268,269])],frzs:=tabN [(1,[4])]}
def feeH.h8:FHint:={drop:=tabN [(0,[0,2]),(1,[11,12,13,14,15,16,17,18,19,20,21,22,23]),(2,[25]),(3,[26,27,28,29]),(4,[31,34,35]),(5,[37,40,41]),(6,[5,6,7,8,9,10,42,43,44,45,46,47,48,49,50,51,52,53,54]),(8,[57,60,61]),(9,[63,66,67]),(10,[5,6,7,8,9,10,68,69,70,71,72,73,74,75,76,77,78,79,80,81,82,83,84,85,86,87,88])],frzs:=tabN [(3,[7])]}
def feeH.h9:FHint:={drop:=tabN [(0,[4]),(1,[26,27,28,29,30,31,32]),(2,[34]),(3,[35,37]),(4,[39,40,41,42,43,44]),(5,[45,46,47,48,49,50,51]),(6,[7,8,9,10,52,53,54,55,56,57,58]),(8,[61,64]),(9,[66,69]),(10,[70,71]),(11,[8,13,72,73,74,75,76,77,78,79,80,81,82,83,84,85,86,87,88,89,90]),(13,[10,92]),(14,[0,5,94,95,96,97,98,99]),(18,[104,105]),(19,[16,106]),(20,[108,109]),(21,[110]),(22,[111,112]),(23,[19,113,114,115,116,117,118,119]),(24,[11,17,18,120,121,122,123,124,125,126,127,128,129,130,131,132,133,134]),(26,[136,137]),(29,[143]),(33,[150,151,152]),(34,[24,153,154,155,156,157,158,159,160,161,162,163,164,165,166,167,168,169,170,171,172,173,174,175,176,177,178,179,180,181,182,183,184,185]),(36,[187,188,189]),(37,[25,190,191,192,193,194,195]),(38,[196,197]),(39,[198]),(40,[21,22,23,199,200,201,202,203,204,205,206,207,208,209,210,211,212,213,214,215,216,217,218,219,220,221]),(42,[223]),(43,[0,1,5,6,14,224,225,226,227,228,229,230,231,232,233,234,235,236,237,238])],loopDrop:=tabN [(17,[16,103,104,105,106,107,108,109,110]),(28,[4,21,22,23,24,25,142,143,144,145,146,147,148,149,150,151,152,153,154,155,156,157,158,159,160,161,162,163,164,165,166,167,168,169,170,171,172,173,174,175,176,177,178,179,180,181,182,183,184,185,186,187,188,189,190,191,192,193,194,195,196,197,198,199,200,201,202,203,204,205,206,207,208,209,210,211,212,213,214,215,216,217,218,219,220,221,222,223]),(32,[4,24,25,149,150,151,152,153,154,155,156,157,158,159,160,161,162,163,164,165,166,167,168,169,170,171,172,173,174,175,176,177,178,179,180,181,182,183,184,185,186,187,188,189,190,191,192,193,194,195,196,197,198])]}
def feeH.h10:FHint:={drop:=tabN [(0,[4]),(1,[0,24,25,26]),(2,[1,27]),(3,[30,33,34]),(4,[7,35,36]),(5,[9,10,38,39,40,41,42,43,44,45,46,47,48,49,50,51]),(9,[55,56]),(10,[58,59,60,61,62,63]),(11,[65,66,69]),(12,[11,70,71]),(13,[12,13,14,15,16,73,74,75,76,77,78,79,80,81,82,83,84,85,86,87,88,89,90,91,92,93,94,95,96,97]),(15,[99]),(16,[100,101]),(18,[102,103]),(20,[107]),(21,[108,109,110,111,112]),(22,[113]),(24,[117]),(25,[20,118,119,120,121,122,123,124,125,126,127,128,129,130,131]),(26,[132]),(27,[19,133,134,135,136,137]),(28,[138]),(29,[6,22,140,141,142,143,146,147]),(30,[21,148,149]),(31,[9,18,23,151,152,153,154,155,156,157,158,159,160,161,162,163,164,165,166,167,168])],loopDrop:=tabN [(8,[4,11,12,13,14,15,16,54,55,56,57,58,59,60,61,62,63,64,65,66,67,68,69,70,71,72,73,74,75,76,77,78,79,80,81,82,83,84,85,86,87,88,89,90,91,92,93,94,95,96,97,98,99]),(19,[19,20,106,107,108,109,110,111,112,113,114,115,116,117,118,119,120,121,122,123,124,125,126,127,128,129,130,131,132,133,134,135,136,137,138]),(23,[20,116,117,118,119,120,121,122,123,124,125,126,127,128,129,130,131,132])],take:=tabN [(25,[10])],frzs:=tabN [(1,[4])]}
def feeH.h11:FHint:={drop:=tabN [(0,[0,8]),(1,[19,20,21,22,23,24,25,26,27,28,29]),(2,[31]),(3,[32,33,34,35,36,38]),(4,[40,41,42,43]),(6,[45,46,47,48,49,50]),(7,[1,51,52,53,54,55,56]),(8,[13,14,15,16,57,58,59,60,61,62,63]),(10,[66,67,70]),(11,[72,73,76]),(12,[14,16,17,18,77,78,79,80,81,82,83,84]),(14,[86,87,88,89,90,91]),(15,[92,93,94,95,96,97]),(16,[13,14,15,16,98,99,100,101,102,103,104]),(18,[107,108,109,112,113]),(19,[115,116,117,120,121]),(20,[2,3,11,12,13,14,15,16,17,18,122,123,124,125,126,127,128,129,130,131,132,133,134,135,136,137,138,139,140,141,142,143,144,145,146,147,148,149,150,151,152])]}
def feeH.h12:FHint:={drop:=tabN [(0,[4]),(1,[0,29]),(4,[31]),(6,[35,36,37]),(7,[38]),(8,[40,41]),(9,[42,43,44]),(10,[8,46,47,48]),(11,[49]),(12,[7,50,51,52,53]),(13,[56,59]),(14,[61,64]),(15,[65,66,67,68,69,70]),(19,[75,76]),(20,[17,77]),(21,[79,80]),(22,[81]),(23,[10,12,13,14,15,82,83,84,85,86,87,88,89,90,91,92,93,94,95,96,97,98,99,100,101,102,103]),(25,[105]),(28,[111,112]),(29,[113,114,115,116,117,118,119,120,121,122,123,124,125,126,127,128,129,130,131,132,133,134,135,136,137,138,139,140,141,142,143,144,145,146,147,148,149,150]),(31,[152,153,154,155,156,157,158,159,160]),(32,[161,162,163,164,165,166,167,168,169]),(33,[170]),(34,[18,171]),(42,[183,184]),(43,[185,186,187,188,189,190,191]),(45,[25,193,194,195,196,197,198]),(46,[199]),(47,[22,23,200,201,202,203,204,205]),(49,[207]),(50,[208,209]),(51,[1,211,212,213,214,215]),(52,[6,9,26,216,217,218,219,220,221,222,223,224,225,226]),(53,[27,28,227,228,229,230]),(55,[232])],loopDrop:=tabN [(5,[8,34,35,36,37,38,39,40,41,42,43,44,46,47,48,49]),(18,[17,74,75,76,77,78,79,80,81]),(27,[4,20,110,111,112,113,114,115,116,117,118,119,120,121,122,123,124,125,126,127,128,129,130,131,132,133,134,135,136,137,138,139,140,141,142,143,144,145,146,147,148,149,150,151,152,153,154,155,156,157,158,159,160,161,162,163,164,165,166,167,168,169,170]),(37,[4,22,23,25,176,177,178,179,180,181,182,183,184,185,186,187,188,189,190,191,192,193,194,195,196,197,198,199,200,201,202,203,204,205,206,207]),(41,[4,25,182,183,184,185,186,187,188,189,190,191,192,193,194,195,196,197,198,199])]}
def feeH.h13:FHint:={drop:=tabN [(0,[0,4]),(1,[14,15,16,17,18,19]),(2,[21]),(3,[22,23,24,25,26]),(4,[28,29,30,31,32,33]),(5,[34,35,36,37,38,39]),(6,[8,9,10,11,40,41,42,43,44,45,46]),(8,[49,52,53]),(9,[55,58,59]),(10,[1,7,8,9,10,11,12,13,60,61,62,63,64,65,66,67,68,69,70,71,72,73,74,75,76,77,78,79,80,81,82,83,84,85])],frzs:=tabN [(3,[9])]}
def feeH.h14:FHint:={drop:=tabN [(0,[4]),(1,[0,22,23,24]),(2,[1,25]),(3,[28,31,32]),(4,[33,34,35,36,37,38]),(5,[9,10,11,39,40,41,42,43,44,45,46,47,48,49,50,51,52,53]),(9,[57,58,59,60]),(10,[63,64,65]),(11,[68,69,70,71,72,73]),(12,[14,74,75,76,77,78,79,80,81,82,83,84,85,86,87,88,89,90,91]),(14,[93,94]),(15,[15,96,97]),(16,[99,100,101,102,103,104,105]),(19,[110,111]),(20,[19]),(22,[121,122]),(23,[21,123,124,125,126,127,128,129,130,131]),(24,[132]),(25,[133]),(26,[17,134]),(28,[136]),(29,[137])],loopDrop:=tabN [(8,[4,12,13,14,15,16,17,19,21,56,57,58,59,60,61,62,63,64,65,66,67,68,69,70,71,72,73,74,75,76,77,78,79,80,81,82,83,84,85,86,87,88,89,90,91,92,93,94,95,96,97,98,99,100,101,102,103,104,105,106,107,108,109,110,111,112,113,114,115,116,117,118,119,120,121,122,123,124,125,126,127,128,129,130,131,132,133,134,135,136]),(18,[19,21,109,110,111,112,113,114,115,116,117,118,119,120,121,122,123,124,125,126,127,128,129,130,131,132,133]),(21,[21,120,121,122,123,124,125,126,127,128,129,130,131,132])],frzs:=tabN [(1,[4])]}
def feeH.h15:FHint:={drop:=tabN [(0,[4]),(1,[0,26,27,28]),(2,[1,29]),(3,[32,35,36]),(4,[38,41,42]),(5,[9,10,11,12,43,44,45,46,47,48,49,50,51,52,53,54,55,56,57,58,59,60,61,62,63,64,65]),(7,[67,68]),(8,[13,70,71,72,73,74,75,76]),(12,[80]),(14,[14,82]),(15,[84,85]),(16,[87,88,89,90]),(17,[92,93,96,97]),(18,[98,99]),(19,[15,16,18,19,101,102,103,104,105,106,107,108,109,110,111,112,113,114,115,116,117,118,119,120,121,122,123,124,125,126,127,128,129,130]),(23,[136,137,138]),(26,[148,149]),(27,[24,150,151,152,153,154,155,156,157,158,159,160,161,162,163,164,165,166]),(29,[168]),(30,[169]),(31,[17,171,172,175]),(32,[19,25,176,177,178,179,180,181]),(34,[183]),(35,[184])],loopDrop:=tabN [(11,[4,14,15,16,17,18,19,20,21,22,24,25,79,80,81,82,83,84,85,86,87,88,89,90,91,92,93,94,95,96,97,98,99,100,101,102,103,104,105,106,107,108,109,110,111,112,113,114,115,116,117,118,119,120,121,122,123,124,125,126,127,128,129,130,131,132,133,134,135,136,137,138,139,140,141,142,143,144,145,146,147,148,149,150,151,152,153,154,155,156,157,158,159,160,161,162,163,164,165,166,167,168,169,170,171,172,173,174,175,176,177,178,179,180,181,182,183]),(22,[4,21,22,24,135,136,137,138,139,140,141,142,143,144,145,146,147,148,149,150,151,152,153,154,155,156,157,158,159,160,161,162,163,164,165,166,167,168,169]),(25,[4,24,147,148,149,150,151,152,153,154,155,156,157,158,159,160,161,162,163,164,165,166,167,168])],frzs:=tabN [(1,[4])]}
def feeH.h16:FHint:={drop:=tabN [(0,[0]),(1,[16,17,20,21]),(2,[23,26,27]),(3,[29,30,33]),(4,[35,36,37,40,41]),(5,[1,2,3,4,5,6,7,8,9,10,11,42,43,44,45,46,47,48,49,50,51,52,53,54,55,56,57,58,59,60,61,62,63,64,65,66,67,68,69,70,71,72,73,74,75,76,77,78,79,80,81,82,83,84,85,86,87,88,89,90,91]),(7,[93,94,95,96,97,98]),(8,[100,103]),(9,[105,108]),(10,[3,6,8,12,13,14,109,110,111,112,113,114,115,116,117,118,119,120,121,122,123,124,125,126,127,128,129,130,131,132,133,134])]}
def feeH.h17:FHint:={drop:=tabN [(0,[2]),(1,[4,5]),(2,[0,7,8,9])],take:=tabN [(3,[1])]}
def feeH.h18:FHint:={drop:=tabN [(0,[0,1,4,5]),(2,[14,15,16,17]),(4,[19,20,21,22,23,24,25,26]),(6,[27,28]),(7,[29]),(12,[35,36,37]),(13,[9,10,38,39,40,41,42,43,44,46,47,48]),(14,[50]),(15,[51,52,53]),(16,[55,56,57]),(18,[63,64]),(19,[12,65,66,67,68,69,70]),(20,[71])],loopDrop:=tabN [(11,[9,10,34,35,36,37,38,39,40,41,42,43,44,46,47,48,50]),(17,[12,62,63,64,65,66,67,68,69,70,71])],take:=tabN [(13,[10]),(21,[1])]}
def feeH.h19:FHint:={drop:=tabN [(0,[4,5]),(1,[14,15]),(3,[17]),(7,[19,20,21]),(8,[23,24]),(9,[25,26,27,28]),(11,[30,31,32,33,34,35]),(12,[36]),(15,[38]),(17,[39,40,41]),(18,[43,44]),(19,[45,46,47,48,49,50,51,52,53,54]),(20,[56,57,58,59,60,61,62,63,64,65,66,67,68,69,70]),(21,[72,73,74,75,76,77]),(22,[78]),(25,[80,81,82]),(26,[84,85]),(27,[86,87,88,89,90,91,92,93]),(28,[95]),(29,[96,97,98,99,100,101,102,103]),(30,[12,104,105,106]),(31,[107,108])],loopDrop:=tabN [(7,[4,5,19,20,21,22,23,24,25,26,27,28,29,30,31,32,33,34,35]),(17,[39,40,41,42,43,44,45,46,47,48,49,50,51,52,53,54,56,57,58,59,60,61,62,63,64,65,66,67,68,69,70,72,73,74,75,76,77]),(22,[12,13,78,79,80,81,82,83,84,85,86,87,88,89,90,91,92,93,94,95,96,97,98,99,100,101,102,103,104,105,106,107,108]),(25,[80,81,82,83,84,85,86,87,88,89,90,91,92,93,94,95])],take:=tabN [(32,[1])]}
def feeH.h20:FHint:={drop:=tabN [(0,[4]),(1,[0,1,5,6,7])]}
def feeH.h21:FHint:={drop:=tabN [(1,[9,10,11,12,13,14,15,16,17]),(2,[1,18,19]),(4,[23,24,25,26,27]),(5,[28,29,30,31,32]),(6,[33]),(8,[37]),(9,[38,39,40,41,42,43,44]),(10,[8,46,47,48,49,50,51]),(11,[52]),(12,[53,54,55,56,57,58]),(13,[59]),(14,[60])],loopDrop:=tabN [(3,[6,7,8,22,23,24,25,26,27,28,29,30,31,32,33,34,35,36,37,38,39,40,41,42,43,44,45,46,47,48,49,50,51,52,53,54,55,56,57,58,59]),(7,[8,36,37,38,39,40,41,42,43,44,45,46,47,48,49,50,51,52])],take:=tabN [(10,[3]),(12,[3]),(14,[1])],mode:=[1,0]}
def feeH.h22:FHint:={drop:=tabN [(0,[2]),(1,[0,3,4])]}
def feeH.h23:FHint:={drop:=tabN [(0,[1,4]),(4,[13,14]),(5,[15,16,17,18,19,20,21,22,23,24,25,26]),(6,[28])],loopDrop:=tabN [(3,[7,12,13,14,15,16,17,18,19,20,21,22,23,24,25,26,28])],take:=tabN [(7,[1])],mode:=[1,0]}
def feeH.h24:FHint:={drop:=tabN [(0,[4]),(1,[0,1,5,6,7,8,9,10])],mode:=[1,0]}
def feeH.h25:FHint:={drop:=tabN [(0,[0,4]),(1,[8,9]),(4,[15,16,17]),(5,[18,19,20,21,22,23,24,25,26,27,28,29,30,31,32]),(7,[6,7,34,35,36,37,38,39,40,41,42]),(8,[43]),(9,[1,44,45,46,47,48])],loopDrop:=tabN [(3,[4,6,7,14,15,16,17,18,19,20,21,22,23,24,25,26,27,28,29,30,31,32,33,34,35,36,37,38,39,40,41,42,43])],take:=tabN [(11,[1])],nils:=true}
def feeH.h26:FHint:={drop:=tabN [(0,[0,6,7,8]),(1,[17,18,21]),(2,[23,24]),(3,[10,25]),(4,[27,28,29,30,31]),(6,[33,34,35]),(9,[1,9,36,37]),(11,[41,42]),(12,[43,44,45]),(13,[13,47,48,49,50,51,52,53,54,55]),(14,[14,15,56,57,58,59,60,62,63,64]),(15,[66]),(16,[12,68,69])],loopDrop:=tabN [(10,[13,14,15,40,41,42,43,44,45,46,47,48,49,50,51,52,53,54,55,56,57,58,59,60,62,63,64,66])],take:=tabN [(3,[3]),(14,[8]),(16,[3])]}
def feeH.h27:FHint:={drop:=tabN [(0,[6]),(1,[0,1,2,7,8,9,10,11,12,13])],mode:=[1,0,0]}
def feeH.h28:FHint:={drop:=tabN [(0,[4]),(1,[0,1,5,6,7,8,9])],mode:=[1,0]}
def feeH.h29:FHint:={drop:=tabN [(0,[0,2]),(1,[5,6,7]),(5,[14,15]),(6,[16,17,18]),(8,[20])],loopDrop:=tabN [(4,[2,4,13,14,15,16,17,18,19,20])]}
def feeH.h30:FHint:={drop:=tabN [(0,[0]),(1,[5,6,7,8]),(4,[14,15,16]),(5,[3,17,18,19,20,21,22,23,24]),(6,[25]),(7,[26])],loopDrop:=tabN [(3,[3,4,13,14,15,16,17,18,19,20,21,22,23,24,25])],take:=tabN [(7,[1])],frzs:=tabN [(5,[8])]}
def feeH.h31:FHint:={drop:=tabN [(0,[0]),(1,[6,7,8,9,10,11,12,13,14]),(4,[20,21]),(5,[22,23,24,25,26,27,28,29,30,31,32,33,34]),(6,[35]),(7,[36])],loopDrop:=tabN [(3,[5,19,20,21,22,23,24,25,26,27,28,29,30,31,32,33,34,35])],take:=tabN [(7,[1])]}
def feeH.h32:FHint:={drop:=tabN [(0,[0,4,5]),(1,[9,10,13]),(2,[14]),(3,[7,16]),(4,[1,6,17,18,19])],take:=tabN [(3,[2])]}
def feeH.h33:FHint:={drop:=tabN [(0,[0,4,5]),(1,[10,11,12]),(2,[13]),(3,[6,15]),(6,[16,17,18]),(7,[20,21]),(9,[22,23,24]),(10,[26,27]),(11,[28,29,30,31,32,33,34,35,36,37,38,39,40,41,42,43,44,45,46,47,48,49,50,51,52,53,54,55]),(12,[57,58,59,60,61])],loopDrop:=tabN [(6,[9,16,17,18,19,20,21,22,23,24,25,26,27,28,29,30,31,32,33,34,35,36,37,38,39,40,41,42,43,44,45,46,47,48,49,50,51,52,53,54,55,56,57,58,59,60,61]),(9,[22,23,24,25,26,27,28,29,30,31,32,33,34,35,36,37,38,39,40,41,42,43,44,45,46,47,48,49,50,51,52,53,54,55,56,57,58,59,60,61])],take:=tabN [(3,[2]),(13,[1])]}
def feeH.h34:FHint:={drop:=tabN [(0,[0,4,5]),(1,[16,17,20]),(2,[21]),(3,[7,23]),(4,[24,25,26]),(8,[31,32,33]),(9,[34,35]),(10,[36,37,38]),(11,[40,41]),(12,[42,43,44,45,46,47,48,49,50,51,52,53,54,55,56,57,58,59,60]),(13,[13,14,61,62,63,64,65,66,67,68,69,70,71,72,73,74,75,76,77,78,79,80,81,82,83,84,85,86,87,88,89,90,91,92,93,94,95]),(14,[97,98,99,100,101]),(15,[103])],loopDrop:=tabN [(7,[10,11,12,13,14,30,31,32,33,34,35,36,37,38,39,40,41,42,43,44,45,46,47,48,49,50,51,52,53,54,55,56,57,58,59,60,61,62,63,64,65,66,67,68,69,70,71,72,73,74,75,76,77,78,79,80,81,82,83,84,85,86,87,88,89,90,91,92,93,94,95,96,97,98,99,100,101,103]),(10,[13,14,36,37,38,39,40,41,42,43,44,45,46,47,48,49,50,51,52,53,54,55,56,57,58,59,60,61,62,63,64,65,66,67,68,69,70,71,72,73,74,75,76,77,78,79,80,81,82,83,84,85,86,87,88,89,90,91,92,93,94,95,96,97,98,99,100,101])],take:=tabN [(3,[2]),(16,[1])]}
def feeH.h35:FHint:={drop:=tabN [(0,[0,4,5]),(1,[12,13,14]),(2,[15]),(3,[6,17]),(6,[18,19,20]),(7,[22,23]),(8,[24,25]),(9,[26,27,28]),(10,[30,31]),(11,[32,33,34,35,36,37,38,39,40,41,42,43,44,45,46,47,48,49,50,51,52,53,54,55,56,57,58,59]),(12,[61,62,63,64,65,66,67,68,69,70,71,72]),(13,[74,75,76,77,78,79,80,81,82,83,84,85,86,87,88]),(14,[10,11,89,90,91,92,93,94,95,96,97,98,99,100,101,102,103,104,105,106,107]),(15,[109,110,111,112,113])],loopDrop:=tabN [(6,[9,10,11,18,19,20,21,22,23,24,25,26,27,28,29,30,31,32,33,34,35,36,37,38,39,40,41,42,43,44,45,46,47,48,49,50,51,52,53,54,55,56,57,58,59,60,61,62,63,64,65,66,67,68,69,70,71,72,73,74,75,76,77,78,79,80,81,82,83,84,85,86,87,88,89,90,91,92,93,94,95,96,97,98,99,100,101,102,103,104,105,106,107,108,109,110,111,112,113]),(9,[10,11,26,27,28,29,30,31,32,33,34,35,36,37,38,39,40,41,42,43,44,45,46,47,48,49,50,51,52,53,54,55,56,57,58,59,60,61,62,63,64,65,66,67,68,69,70,71,72,73,74,75,76,77,78,79,80,81,82,83,84,85,86,87,88,89,90,91,92,93,94,95,96,97,98,99,100,101,102,103,104,105,106,107,108,109,110,111,112,113])],take:=tabN [(3,[2]),(16,[1])]}
def feeH.h36:FHint:={drop:=tabN [(0,[0,4,5,6]),(1,[14,15,18]),(2,[19]),(3,[8,21]),(4,[22,23,24]),(5,[1,25,26,27]),(7,[28,29]),(9,[30,31]),(10,[33]),(11,[34,35,36,37,38,39]),(12,[40]),(13,[10,43])],loopDrop:=tabN [(0,[4,5,6,11,12,28,29,30,31,32,33,34,35,36,37,38,39,40,41,42,43])],take:=tabN [(3,[3]),(13,[2,3])]}
def feeH.h37:FHint:={drop:=tabN [(0,[0,4,5,6]),(1,[11,12,15]),(2,[16]),(3,[8,18]),(5,[19,20]),(6,[22,23]),(7,[7,25,26,27,28,29,30,31,32,33]),(8,[35,36]),(9,[38,39,42]),(10,[9,44])],loopDrop:=tabN [(6,[22,23,24,25,26,27,28,29,30,31,32,33,35,36,37,38,39,40,42,2000592,2000593])],take:=tabN [(3,[3]),(10,[2,3])]}
def feeH.h38:FHint:={drop:=tabN [(0,[0,1,4]),(1,[7,8,9,10,11,12,13,14,15,16,17,18,19,20,21,22,23,24,25,26,27,28,29,30,31,32,33,34,35,36,37,38,39,40]),(5,[47,48,49]),(6,[5,50,51,52,53,54,55,56,57,58,59,60,61,62,63,64,65,66,67,68,69,70,71,72,73,74,75,76,77,78,79,80]),(8,[82])],loopDrop:=tabN [(4,[4,5,6,46,47,48,49,50,51,52,53,54,55,56,57,58,59,60,61,62,63,64,65,66,67,68,69,70,71,72,73,74,75,76,77,78,79,80,81,82])]}
def feeH.h39:FHint:={drop:=tabN [(0,[1,4]),(1,[0,5,6,7,8])]}
def feeH.h40:FHint:={drop:=tabN [(0,[1,4]),(1,[0,5,6,7,8])]}
def feeH.h41:FHint:={drop:=tabN [(0,[0,2,3,4]),(1,[10,13]),(2,[14]),(3,[6,16]),(4,[5,18,19,20,21,24]),(5,[8,26])],take:=tabN [(3,[3]),(5,[2,3])]}
def feeH.h42:FHint:={drop:=tabN [(0,[0,4,5,6]),(1,[15,16]),(2,[17]),(3,[7,19]),(4,[20]),(8,[22,23,24]),(9,[26,27]),(10,[13,29,30,31,32,33,36]),(11,[37,38]),(13,[12,40,41,42,43]),(14,[44,45,46,47,48,49]),(15,[14,55]),(16,[10,57])],loopDrop:=tabN [(8,[12,13,14,22,23,24,25,26,27,28,29,30,31,32,33,34,35,36,37,38,39,40,41,42,43,44,45,46,47,48,49,50,51,52,53,54,55])],take:=tabN [(3,[3]),(15,[6]),(16,[2,3])],frz:=true}
def feeH.h43:FHint:={drop:=tabN [(0,[0,2,3,4]),(1,[10,13]),(2,[14]),(3,[6,16]),(4,[5,18,19,20,21,24]),(5,[8,26])],take:=tabN [(3,[3]),(5,[2,3])]}
def feeH.h44:FHint:={drop:=tabN [(0,[2]),(1,[4,5]),(2,[0,7,8,9])],take:=tabN [(3,[1])]}
def feeH.h45:FHint:={drop:=tabN [(0,[4,5]),(1,[10,11]),(2,[12]),(3,[6,14]),(4,[0,15]),(7,[21,22]),(8,[23,24,25,26,27,28,29,30,31,32,33,34,35,36,37,38,39,40,41,42,43,44,45,46,47,48,49,50]),(10,[52,53,54,55,56,57,58,59,60]),(11,[61,62,63,64,65,66,67,68,69]),(12,[70]),(13,[7,71,72])],loopDrop:=tabN [(6,[4,5,9,20,21,22,23,24,25,26,27,28,29,30,31,32,33,34,35,36,37,38,39,40,41,42,43,44,45,46,47,48,49,50,51,52,53,54,55,56,57,58,59,60,61,62,63,64,65,66,67,68,69,70])],take:=tabN [(3,[2])]}
def feeH.h46:FHint:={drop:=tabN [(0,[4,5]),(1,[11,12]),(2,[13]),(3,[6,15]),(5,[16,17,18]),(6,[20,21]),(7,[22,23,24,25,26,27,28,29,30,31,32,33,34,35,36,37,38,39,40,41,42,43,44,45,46,47,48,49,50,51,52,53,54,55,56,57,58,59,60,61]),(10,[63,64,65]),(11,[67,68]),(12,[69,70,71,72]),(14,[73,74,75]),(15,[77,78]),(16,[79,80,81,82,83,84]),(17,[86,87,88,89,90,91,92]),(18,[93,94,95,96,97,98]),(19,[100,101,102,103,104,105,106]),(20,[9,107])],loopDrop:=tabN [(5,[4,5,16,17,18,19,20,21,22,23,24,25,26,27,28,29,30,31,32,33,34,35,36,37,38,39,40,41,42,43,44,45,46,47,48,49,50,51,52,53,54,55,56,57,58,59,60,61,62]),(10,[4,5,9,10,63,64,65,66,67,68,69,70,71,72,73,74,75,76,77,78,79,80,81,82,83,84,85,86,87,88,89,90,91,92,93,94,95,96,97,98,99,100,101,102,103,104,105,106,107,108]),(14,[73,74,75,76,77,78,79,80,81,82,83,84,85,86,87,88,89,90,91,92,93,94,95,96,97,98,99,100,101,102,103,104,105,106])],take:=tabN [(3,[2])]}
def feeH.h47:FHint:={drop:=tabN [(0,[2]),(4,[10,11]),(5,[12,13,14]),(6,[16])],loopDrop:=tabN [(3,[5,9,10,11,12,13,14,16])],take:=tabN [(5,[2]),(7,[1])]}
def feeH.h48:FHint:={drop:=tabN [(0,[2,3]),(1,[11,12]),(2,[13]),(3,[4,15]),(5,[16]),(9,[24,25]),(11,[31,32,33]),(12,[34,35,36,37,38,39]),(13,[41,42]),(14,[9,10,43,44,45,46,47,48,49,50,51,52]),(15,[55,56]),(16,[9,10,57,58,59,60,61,62,63,64,65,66,67]),(17,[69]),(18,[70])],loopDrop:=tabN [(6,[7,8,9,10,20,21,22,23,24,25,26,27,28,29,30,31,32,33,34,35,36,37,38,39,40,41,42,43,44,45,46,47,48,49,50,51,52,54,55,56,57,58,59,60,61,62,63,64,65,66,67,69,70]),(10,[9,10,30,31,32,33,34,35,36,37,38,39,40,41,42,43,44,45,46,47,48,49,50,51,52,54,55,56,57,58,59,60,61,62,63,64,65,66,67,69])],take:=tabN [(3,[2]),(19,[1])]}
def feeH.h49:FHint:={drop:=tabN [(0,[2,3]),(1,[5,6]),(2,[7]),(3,[4,9]),(4,[0,10])],take:=tabN [(3,[2])]}
def feeH.h50:FHint:={drop:=tabN [(0,[2]),(1,[5,6]),(5,[8,9,10]),(6,[12,13]),(7,[14,15,16,17]),(9,[19,20,21,22,23,24]),(10,[3,25])],loopDrop:=tabN [(5,[2,8,9,10,11,12,13,14,15,16,17,18,19,20,21,22,23,24])]}
def feeH.h51:FHint:={drop:=tabN [(0,[6]),(1,[11,12,13,14,15,16,17,18,19,20]),(2,[22,23]),(3,[24,25,26]),(5,[28,29,30]),(6,[32,33]),(7,[34,35,36,37]),(9,[2,39,40]),(12,[41,42,43]),(13,[45,46]),(14,[47,48]),(15,[50,51,52,53,54,55,56,57,58,59,60,61]),(16,[10,62,63,64,65,66,67,68]),(17,[0,1,2,8,69,70,71,72,73,74,75,76,77,78,79,80,81,82,83])],loopDrop:=tabN [(1,[11,12,13,14,15,16,17,18,19,20,21,22,23]),(5,[6,28,29,30,31,32,33,34,35,36,37,38]),(12,[10,41,42,43,44,45,46,47,48,49,50,51,52,53,54,55,56,57,58,59,60,61,62,63,64,65,66,67,68])]}
def feeH.h52:FHint:={drop:=tabN [(0,[4]),(1,[0,1,5,6,7])]}
def feeH.h53:FHint:={drop:=tabN [(0,[2]),(1,[5,6]),(2,[8]),(3,[9,10,11]),(5,[12,13,14]),(6,[16,17]),(7,[18,19,20,21,22,23]),(8,[3,24])],loopDrop:=tabN [(5,[12,13,14,15,16,17,18,19,20,21,22,23])],take:=tabN [(8,[1])]}
def feeH.h54:FHint:={drop:=tabN [(0,[2]),(1,[5,6]),(2,[8]),(3,[9,10,11]),(5,[12,13,14]),(6,[16,17]),(7,[18,19,20,21,22,23]),(8,[3,24])],loopDrop:=tabN [(5,[12,13,14,15,16,17,18,19,20,21,22,23])],take:=tabN [(8,[1])]}
def feeH.h55:FHint:={drop:=tabN [(0,[0,4,5]),(1,[9,10,13]),(2,[14]),(3,[7,16]),(4,[1,6,17,18,19,20,21])],take:=tabN [(3,[2])]}
def feeH.h56:FHint:={drop:=tabN [(0,[0,4,5]),(1,[10,11,14]),(2,[15]),(3,[7,17]),(4,[1,6,18,19,20]),(5,[21,22,23])],take:=tabN [(3,[2])]}
def feeH.h57:FHint:={drop:=tabN [(0,[0,4]),(1,[1,6,7,8,9,10]),(2,[11,12,13,14,15,16,17,18,19,20,21])]}
def feeH.h58:FHint:={drop:=tabN [(0,[0,2]),(1,[7,8,9,10,11,12,13,14,15,16]),(3,[18,19,20,21,22,23,24,25,26,27,28,29,30,31,32,33]),(5,[35,36,37,38]),(9,[44,45]),(10,[47,48,49,50]),(12,[52,53,54,55,56,57]),(14,[58,59,60]),(16,[64]),(17,[5,65,66,67,68,69,70,71,72,73,74,75]),(19,[77]),(20,[78])],loopDrop:=tabN [(8,[2,4,5,43,44,45,46,47,48,49,50,51,52,53,54,55,56,57,58,59,60,61,62,63,64,65,66,67,68,69,70,71,72,73,74,75,76,77,78]),(15,[2,5,63,64,65,66,67,68,69,70,71,72,73,74,75,76,77])]}
def feeH.h59:FHint:={drop:=tabN [(0,[0,2]),(1,[8,9,10,11,12,13,14,15]),(3,[17,18,19,20,21,22,23,24,25,26,27,28]),(6,[30,31,32,33]),(7,[35,36]),(8,[37,38,39,40,41,42,43,44,45,46,47,48,49,50,51]),(11,[53,54,55,56]),(12,[58,59]),(14,[66,67]),(17,[69,70,71]),(18,[73,74]),(19,[75,76,77,78,79,80,81]),(22,[83,84,85]),(23,[87,88]),(24,[89,90,91,92,93,94,95,96,97])],loopDrop:=tabN [(6,[2,30,31,32,33,34,35,36,37,38,39,40,41,42,43,44,45,46,47,48,49,50,51,52]),(11,[2,5,6,7,53,54,55,56,57,58,59,60,61,62,63,64,65,66,67,68,69,70,71,72,73,74,75,76,77,78,79,80,81,82,83,84,85,86,87,88,89,90,91,92,93,94,95,96,97,98]),(17,[2,69,70,71,72,73,74,75,76,77,78,79,80,81,82]),(22,[2,83,84,85,86,87,88,89,90,91,92,93,94,95,96,97,98])]}
def feeH.h60:FHint:={drop:=tabN [(0,[0,4,5]),(1,[9,12]),(2,[14,15]),(3,[7,16]),(4,[18,19,20,21]),(6,[1,6,22,23,24,25,26,27,28])],take:=tabN [(3,[2])]}
def feeH.h61:FHint:={drop:=tabN [(0,[0,4,5]),(1,[7,8]),(2,[9]),(3,[6,11]),(4,[12,13,14,15,16]),(6,[1,18,19,20])],take:=tabN [(3,[2])]}
def feeH.h62:FHint:={drop:=tabN [(0,[0,4,5]),(1,[9,10,11]),(2,[12]),(3,[6,14]),(6,[15,16,17]),(7,[19,20]),(8,[21,22,23,24,25,26])],loopDrop:=tabN [(6,[15,16,17,18,19,20,21,22,23,24,25,26])],take:=tabN [(3,[2]),(9,[1])]}
def feeH.h63:FHint:={drop:=tabN [(0,[0,4,5]),(1,[1,9,10,13]),(2,[14]),(3,[7,16]),(4,[6,17,18,19,20,21])],take:=tabN [(3,[2])]}
def feeH.h64:FHint:={drop:=tabN [(0,[0,6,7,8]),(1,[1,17,18,21]),(2,[22]),(3,[10,24]),(4,[25,26,27,28]),(7,[30,31,32]),(8,[34,35]),(9,[36,37,38,39]),(14,[41,42,43]),(15,[45,46]),(16,[47,48,49,50,51,52,53,54,55,56,57,58,59]),(17,[60,61,62]),(18,[15,64,65,66,67,68,69,70,71]),(19,[13,73])],loopDrop:=tabN [(7,[6,7,8,30,31,32,33,34,35,36,37,38,39,40]),(14,[15,41,42,43,44,45,46,47,48,49,50,51,52,53,54,55,56,57,58,59,60,61,62,64,65,66,67,68,69,70,71])],take:=tabN [(3,[3]),(19,[2,3])]}
def feeH.h65:FHint:={drop:=tabN [(0,[4]),(1,[0,1,5,6,7,8])]}
def feeH.h66:FHint:={drop:=tabN [(0,[2]),(1,[0,3,4])]}
def feeH.h67:FHint:={drop:=tabN [(0,[6]),(1,[8,9,10,11,12,13]),(2,[14,15]),(4,[18,19]),(5,[1,2,20,21,22,23,24,25]),(6,[7,27,28,29,30,31])],take:=tabN [(3,[1]),(7,[1])],mode:=[2,0,0],intr:=9}
def feeH.h68:FHint:={drop:=tabN [(0,[2]),(1,[3]),(3,[0,5,6])]}
def feeH.h69:FHint:={drop:=tabN [(0,[0,4,5]),(1,[11,14]),(2,[16,17]),(3,[7,18]),(4,[20,21,22,23,24]),(8,[29,30,31]),(9,[8,9,32,33,34,35]),(11,[37]),(12,[1,6,38,39,40])],loopDrop:=tabN [(7,[4,5,8,9,28,29,30,31,32,33,34,35,36,37])],take:=tabN [(3,[2])]}
def feeH.h70:FHint:={drop:=tabN [(0,[0,4,5]),(1,[10,11]),(2,[12]),(3,[6,14]),(5,[15,16,17]),(6,[19,20]),(7,[21,22,23,24,25,26,27,28]),(10,[30,31,32]),(11,[34,35]),(13,[36,37]),(14,[39,40]),(15,[41,42,43,44,45,46,47,48]),(17,[1,50,51,52])],loopDrop:=tabN [(5,[4,5,15,16,17,18,19,20,21,22,23,24,25,26,27,28,29]),(10,[4,5,9,30,31,32,33,34,35,36,37,38,39,40,41,42,43,44,45,46,47,48,49]),(13,[4,5,36,37,38,39,40,41,42,43,44,45,46,47,48,49])],take:=tabN [(3,[2])]}
def feeH.h71:FHint:={drop:=tabN [(0,[0,2,3,4]),(1,[14,17]),(2,[18]),(3,[6,20]),(6,[21,22,23]),(8,[27]),(10,[28,29]),(12,[33]),(13,[34,35,36,37]),(14,[11,39,40,41]),(15,[43]),(16,[44,45,46]),(17,[47,48,49,50,51,52,53,54,55,56,57,58,59,60,61,62,63,64,65,66,67,68,69,70,71,72,73]),(18,[12,76]),(19,[77]),(20,[8,79])],loopDrop:=tabN [(7,[9,10,11,12,26,27,28,29,30,31,32,33,34,35,36,37,38,39,40,41,43,44,45,46,47,48,49,50,51,52,53,54,55,56,57,58,59,60,61,62,63,64,65,66,67,68,69,70,71,72,73,74,75,76,77]),(11,[11,32,33,34,35,36,37,38,39,40,41,43])],take:=tabN [(3,[3]),(14,[2]),(18,[2,3]),(20,[2,3])]}
def feeH.h72:FHint:={drop:=tabN [(0,[0,2,3,4]),(1,[11,12]),(2,[13]),(3,[5,15]),(4,[16,17,18]),(8,[20,21,22]),(9,[24,25]),(10,[26,27,28,29,30,31]),(11,[32,33,34,35,36,37,38,39,40,41,42,43,44,45,46,47,48]),(12,[10,54]),(13,[8,56])],loopDrop:=tabN [(8,[10,20,21,22,23,24,25,26,27,28,29,30,31,32,33,34,35,36,37,38,39,40,41,42,43,44,45,46,47,48,49,50,51,52,53,54])],take:=tabN [(3,[3]),(12,[6]),(13,[2,3])],frz:=true}
def feeH.h73:FHint:={drop:=tabN [(0,[2]),(1,[4,5,6]),(2,[7]),(3,[9,10]),(4,[11,12,13,14,15,16,17,18,19])],loopDrop:=tabN [(2,[2,7,8,9,10,11,12,13,14,15,16,17,18,19,20])]}
def feeH.h74:FHint:={drop:=tabN [(0,[4]),(2,[1,8]),(4,[12]),(5,[13,14,15]),(6,[16,17,18]),(7,[6,7,20,21,22,23,24,25,26,27,28,29,30,31,32,33]),(8,[34])],loopDrop:=tabN [(3,[6,7,11,12,13,14,15,16,17,18,20,21,22,23,24,25,26,27,28,29,30,31,32,33,34])],take:=tabN [(9,[1])],mode:=[1,0]}
def feeH.h75:FHint:={drop:=tabN [(1,[1,2,3,4,5,6,7,8,9,10])]}
def feeH.h76:FHint:={drop:=tabN [(0,[4]),(1,[0,1,5,6,7])]}
def feeH.h77:FHint:={drop:=tabN [(0,[4]),(1,[0,1,5,6,7])]}
def feeH.h78:FHint:={drop:=tabN [(0,[6]),(1,[0,1,2,7,8,9,10,11,12,13,14])]}
def feeH.h79:FHint:={drop:=tabN [(0,[1,4]),(1,[0,5,6,7,8])]}
def feeH.h80:FHint:={drop:=tabN [(0,[2]),(1,[0,3,4])]}
def feeH.h81:FHint:={drop:=tabN [(0,[2]),(4,[10,11]),(5,[5,12,13,14]),(6,[15]),(7,[3,16])],loopDrop:=tabN [(3,[5,9,10,11,12,13,14,15])],take:=tabN [(7,[1])]}
def feeH.h82:FHint:={drop:=tabN [(0,[0,1,4,5,6,7,8])],mode:=[1,0]}
def feeH.h83:FHint:={drop:=tabN [(0,[7]),(1,[0,1,2,3,4,8,9,10,11,12,13,14,15,16,17,18,19,20,21,22,23,24])]}
def feeH.h84:FHint:={drop:=tabN [(0,[6]),(1,[0,1,2,7,8,9,10,11,12,13,14])]}
def feeH.h85:FHint:={drop:=tabN [(0,[4]),(1,[6,7,8,9]),(3,[11]),(5,[15]),(6,[5,16,17,18,19,20,21,22,23]),(8,[25])],loopDrop:=tabN [(4,[4,5,14,15,16,17,18,19,20,21,22,23,24,25])]}
def feeH.h86:FHint:={drop:=tabN [(0,[2]),(1,[4,5,6,7,8,9,10,11,12]),(2,[14,15,16,17,18,19,20,21,22,23,24]),(3,[25,26,27,28,29]),(4,[30,31,32,33,34]),(5,[36,37,38,39,40,41,42,43,44,45,46,47,48,49]),(6,[0,50,51,52,53,54,55,56]),(7,[3,57,58,59,60,61,62])],mode:=[1]}
def feeH.h87:FHint:={drop:=tabN [(0,[4]),(1,[0,1,5,6,7,8])]}
def feeH.h88:FHint:={drop:=tabN [(0,[0,4,5]),(1,[11,14]),(2,[16,17]),(3,[7,18]),(4,[20,21,22,23,24,25]),(6,[27,28,29,30,31]),(10,[36,37,38]),(11,[8,9,39,40,41,42]),(13,[44])],loopDrop:=tabN [(9,[4,5,8,9,35,36,37,38,39,40,41,42,43,44])],take:=tabN [(3,[2]),(14,[1])],frz:=true}
def feeH.h89:FHint:={drop:=tabN [(0,[2]),(1,[0,3,4])]}
def feeH.h90:FHint:={drop:=tabN [(4,[12,13,14]),(5,[6,7,15,16,17,18,19,20,21,22,23,24,25,26]),(6,[27]),(7,[28])],loopDrop:=tabN [(3,[6,7,11,12,13,14,15,16,17,18,19,20,21,22,23,24,25,26,27])],take:=tabN [(7,[1])]}
def feeH.h91:FHint:={drop:=tabN [(0,[2]),(1,[4,5]),(2,[0,7,8,9])],take:=tabN [(3,[1])]}
def feeH.h92:FHint:={drop:=tabN [(0,[2]),(1,[0,3])]}
def feeH.h93:FHint:={drop:=tabN [(0,[0,1,4]),(1,[7,8,9,10,11])],mode:=[0,1]}
def feeH.h94:FHint:={drop:=tabN [(0,[0,4]),(1,[8,9]),(2,[10]),(3,[5,12]),(4,[13,14,15,16,17]),(7,[19,20,21]),(8,[23,24]),(9,[25,26,27,28,29,30,31]),(12,[33,34,35]),(13,[37,38]),(14,[39,40,41,42,43,44,45])],loopDrop:=tabN [(7,[4,19,20,21,22,23,24,25,26,27,28,29,30,31,32]),(12,[4,33,34,35,36,37,38,39,40,41,42,43,44,45,46])],take:=tabN [(3,[1])]}
def feeH.h95:FHint:={drop:=tabN [(0,[0,6]),(1,[2]),(3,[15,16,17]),(4,[19,20]),(5,[21,22,23,24,25])],loopDrop:=tabN [(3,[6,15,16,17,18,19,20,21,22,23,24,25,26])]}
def feeH.h96:FHint:={drop:=tabN [(0,[0,6]),(3,[9,10,11]),(4,[13,14]),(5,[15,16,17,18,19]),(6,[21,22,23,24,25]),(7,[7,26])],loopDrop:=tabN [(3,[9,10,11,12,13,14,15,16,17,18,19,20,21,22,23,24,25])],take:=tabN [(7,[1])]}
def feeH.h97:FHint:={drop:=tabN [(0,[6]),(1,[0,8,9]),(2,[1,2,11,12,13,14])],take:=tabN [(2,[4]),(3,[1])]}
def feeH.h98:FHint:={drop:=tabN [(0,[6]),(1,[0,1,2,7,8,9,10,11,12,13,14,15,16,17])]}
def feeH.h99:FHint:={drop:=tabN [(0,[1,4]),(1,[6]),(3,[10]),(4,[11,12,13,14,15]),(5,[5,17]),(6,[18])],loopDrop:=tabN [(2,[4,5,9,10,11,12,13,14,15,16,17,18])],take:=tabN [(5,[1])]}
def feeH.h100:FHint:={drop:=tabN [(0,[1,4]),(1,[6]),(3,[10]),(4,[11,12,13,14,15]),(5,[5,17]),(6,[18])],loopDrop:=tabN [(2,[4,5,9,10,11,12,13,14,15,16,17,18])],take:=tabN [(5,[1])]}
def feeH.h101:FHint:={drop:=tabN [(0,[0,2,3]),(1,[8,9]),(2,[10]),(3,[4,12]),(4,[13,14]),(7,[21,22]),(8,[23,24,25,26,27,28,29,30,31,32,33,34,35,36,37,38,39,40,41,42]),(9,[43])],loopDrop:=tabN [(6,[7,20,21,22,23,24,25,26,27,28,29,30,31,32,33,34,35,36,37,38,39,40,41,42,43])],take:=tabN [(3,[2]),(10,[1])],frz:=true}
def feeH.h102:FHint:={drop:=tabN [(0,[0,1,4,5]),(1,[13]),(3,[14]),(6,[15,16,17]),(7,[18,19,20,21,22,23,24,25]),(8,[32]),(9,[11,37,38,39,40,41,42]),(10,[12,43,44,45,47,48,49,50]),(11,[52])],loopDrop:=tabN [(7,[11,12,18,19,20,21,22,23,24,25,26,27,28,29,30,31,32,33,34,35,36,37,38,39,40,41,42,43,44,45,47,48,49,50])],take:=tabN [(10,[2]),(11,[2])]}
def feeH.h103:FHint:={drop:=tabN [(0,[1,4]),(1,[0,5,6,7,8,9,10,11])]}
def feeH.h104:FHint:={drop:=tabN [(0,[0,4]),(1,[10,11,12,13]),(4,[16,17,18]),(5,[1]),(7,[26,27,28]),(8,[30,31]),(10,[32,33,34]),(11,[36,37]),(12,[38,39,40,41,42,43,44,45,46,47,48,49])],loopDrop:=tabN [(7,[9,26,27,28,29,30,31,32,33,34,35,36,37,38,39,40,41,42,43,44,45,46,47,48,49]),(10,[32,33,34,35,36,37,38,39,40,41,42,43,44,45,46,47,48,49])],take:=tabN [(13,[1])],frz:=true}
def feeH.h105:FHint:={drop:=tabN [(0,[2]),(1,[5,6,7]),(3,[8,9,10]),(4,[12,13]),(5,[14,15,16,17,18,19]),(6,[3,20])],loopDrop:=tabN [(3,[8,9,10,11,12,13,14,15,16,17,18,19])],take:=tabN [(6,[1])]}
def feeH.h106:FHint:={drop:=tabN [(0,[2]),(1,[5,6,7]),(3,[8,9,10]),(4,[12,13]),(5,[14,15,16,17,18,19]),(6,[3,20])],loopDrop:=tabN [(3,[8,9,10,11,12,13,14,15,16,17,18,19])],take:=tabN [(6,[1])]}
def feeH.h107:FHint:={drop:=tabN [(0,[1,4]),(1,[0,5,6,7,8,9,10,11,12,13,14,15])]}
def feeH.h108:FHint:={drop:=tabN [(0,[2]),(1,[4,5,6]),(3,[8,9,10]),(5,[0,12,13,14])]}
def feeH.h109:FHint:={drop:=tabN [(0,[2]),(1,[3]),(3,[0,5,6])]}
def feeH.h110:FHint:={drop:=tabN [(0,[2]),(1,[0,3,4])]}
def feeH.h111:FHint:={drop:=tabN [(0,[0,2]),(3,[6]),(4,[7,8])]}
def feeH.h112:FHint:={drop:=tabN [(0,[4]),(1,[6,7,8,9]),(3,[11]),(5,[15]),(6,[5,16,17,18,19,20,21,22,23]),(8,[25])],loopDrop:=tabN [(4,[4,5,14,15,16,17,18,19,20,21,22,23,24,25])]}
def feeH.h113:FHint:={drop:=tabN [(0,[1,4]),(1,[0,5,6,7,8])]}
def feeH.h114:FHint:={drop:=tabN [(0,[0,2]),(1,[3,4,5,6,7,8,9,10])]}
def feeH.h115:FHint:={drop:=tabN [(0,[0,4]),(1,[1,5,6,7,8,9])]}
def feeH.h116:FHint:={drop:=tabN [(0,[4]),(1,[0,1,5,6,7,8,9,10,11,12,13])]}
def feeH.h117:FHint:={drop:=tabN [(0,[0,4]),(1,[1,6,7,8,9,10]),(2,[11,12,13,14,15,16,17,18,19,20,21,22,23,24])]}
def feeH.h118:FHint:={drop:=tabN [(0,[4]),(1,[6]),(3,[10]),(4,[11,12,13,14,15]),(5,[5,17]),(6,[18])],loopDrop:=tabN [(2,[4,5,9,10,11,12,13,14,15,16,17,18])],take:=tabN [(5,[1])],mode:=[0,1]}
def feeH.h119:FHint:={drop:=tabN [(0,[4]),(5,[18,19]),(6,[20,21,22,23,24,25,26,27,28]),(7,[8]),(9,[42,43]),(10,[10,44,45]),(11,[46]),(12,[47]),(16,[51]),(17,[13]),(18,[53,54]),(19,[55]),(20,[56]),(22,[5,11,58,59,60,61,62,63,64])],loopDrop:=tabN [(4,[8,10,17,18,19,20,21,22,23,24,25,26,27,28,30,31,32,33,34,35,36,37,38,39,40,41,42,43,44,45,46,47]),(8,[10,41,42,43,44,45,46]),(15,[13,50,51,52,53,54,55])]}
def feeH.h120:FHint:={drop:=tabN [(0,[0,4]),(3,[12,13,14]),(4,[16,17]),(5,[18,19,20,21,22,23,24,25]),(7,[26,27,28]),(8,[30,31]),(11,[32,33,34]),(12,[36,37]),(13,[38,39,40,41,42,43,44,45,46,47]),(14,[9]),(15,[49,50]),(17,[51,52,53,54,55,56,57,58]),(18,[60,61]),(19,[11,62])],loopDrop:=tabN [(3,[12,13,14,15,16,17,18,19,20,21,22,23,24,25]),(7,[9,10,26,27,28,29,30,31,32,33,34,35,36,37,38,39,40,41,42,43,44,45,46,47,48,49,50]),(11,[32,33,34,35,36,37,38,39,40,41,42,43,44,45,46,47]),(17,[51,52,53,54,55,56,57,58,59,60,61])],take:=tabN [(19,[1])]}
def feeH.h121:FHint:={drop:=tabN [(0,[4]),(3,[13,14,15]),(4,[16,17,18]),(6,[5,20,21,22,23]),(7,[6,7,24,25,26]),(8,[27]),(9,[8,29]),(10,[30]),(11,[0,1,31,32,33,34])],loopDrop:=tabN [(2,[4,5,6,7,8,12,13,14,15,16,17,18,19,20,21,22,23,24,25,26,27,28,29,30])],take:=tabN [(9,[1])]}
def feeH.h122:FHint:={drop:=tabN [(0,[4]),(2,[0,10]),(3,[11,12]),(4,[14,15]),(5,[16,17,18]),(7,[20,21,22]),(8,[24,25]),(9,[26,27,28,29,30,31,32,33,34])],loopDrop:=tabN [(3,[7,8,11,12,13,14,15,16,17,18,19,20,21,22,23,24,25,26,27,28,29,30,31,32,33,34]),(7,[20,21,22,23,24,25,26,27,28,29,30,31,32,33,34])],take:=tabN [(2,[1]),(10,[1])],frz:=true}
def feeH.h123:FHint:={drop:=tabN [(0,[4]),(1,[0,1,5,6,7,8,9,10,11,12,13,14,15,16])]}
def feeH.h124:FHint:={drop:=tabN [(0,[4]),(1,[6,7,8,9]),(3,[11]),(5,[15]),(6,[5,16,17,18,19,20,21,22,23]),(8,[25])],loopDrop:=tabN [(4,[4,5,14,15,16,17,18,19,20,21,22,23,24,25])]}
def feeH.h125:FHint:={drop:=tabN [(0,[6]),(1,[10,11,12,13]),(5,[19]),(6,[7]),(7,[8,9,26,27,28,29]),(9,[31])],loopDrop:=tabN [(4,[6,7,8,9,18,19,20,21,22,23,24,25,26,27,28,29,30,31])]}
def feeH.h126:FHint:={drop:=tabN [(0,[3]),(1,[0,1,4,5,6,7])]}
def feeH.h127:FHint:={drop:=tabN [(1,[10]),(2,[11,12]),(3,[7,14,15,16,17,18]),(4,[19]),(5,[20,21,22]),(6,[7,23,24,25,26,27]),(7,[28,29]),(8,[31,32]),(9,[33,34]),(10,[7,36,37,38,39,40,41,42,43]),(11,[44]),(12,[45,46,47,48]),(13,[49,50,51]),(14,[52,53]),(15,[7,9,55,56,57,58,59,60]),(16,[61,62])],loopDrop:=tabN [(2,[11,12,13,14,15,16,17,18,19,20,21,22]),(7,[7,8,9,28,29,30,31,32,33,34,35,36,37,38,39,40,41,42,43,44,45,46,47,48,49,50,51,52,53,54,55,56,57,58,59,60,61,62]),(9,[33,34,35,36,37,38,39,40,41,42,43,44,45,46,47,48])],mode:=[1,0,0]}
def feeH.h128:FHint:={drop:=tabN [(0,[4]),(1,[6]),(3,[10]),(4,[11,12,13,14,15]),(5,[5,17]),(6,[18])],loopDrop:=tabN [(2,[4,5,9,10,11,12,13,14,15,16,17,18])],take:=tabN [(5,[1])]}
def feeH.h129:FHint:={drop:=tabN [(0,[0,4]),(3,[8,9,10,11])],take:=tabN [(3,[2]),(4,[1])],mode:=[2,0]}
def feeH.h130:FHint:={drop:=tabN [(2,[13,14,15]),(3,[16,17,18,19]),(5,[23]),(6,[8,24,25,26,27,28,29,30,31,32,33,34,35,36,37,38,39,40,41,42,43,44,45,46,47,48,49,50,51,52,53,54,55,56]),(7,[58]),(8,[59])],loopDrop:=tabN [(1,[6,7,8,12,13,14,15,16,17,18,19,20,21,22,23,24,25,26,27,28,29,30,31,32,33,34,35,36,37,38,39,40,41,42,43,44,45,46,47,48,49,50,51,52,53,54,55,56,57,58,59]),(4,[8,22,23,24,25,26,27,28,29,30,31,32,33,34,35,36,37,38,39,40,41,42,43,44,45,46,47,48,49,50,51,52,53,54,55,56,57,58])]}
def feeH.h131:FHint:={drop:=tabN [(0,[0,6]),(1,[13,14,15,16,17,18,19,20]),(2,[2,22,23,24,25,26]),(3,[27,28,29,30,31,32]),(4,[8]),(5,[7,34]),(7,[40]),(9,[48,49]),(10,[11,50,51,52,53,54,55]),(11,[56,57,58,59,60,61]),(12,[12,63]),(13,[64]),(14,[3,65,66,67]),(15,[9,68])],loopDrop:=tabN [(8,[11,12,47,48,49,50,51,52,53,54,55,56,57,58,59,60,61,62,63,64])],take:=tabN [(5,[1]),(12,[1]),(15,[1])],mode:=[0,1,1,1,1]}
def feeH.h132:FHint:={drop:=tabN [(0,[1]),(1,[0,2,7,8,9,10,11,12,13,14,15,16,17,18,19,20,21]),(2,[22,23,24,25]),(3,[26])],take:=tabN [(3,[1])]}
def feeH.h133:FHint:={drop:=tabN [(0,[6]),(1,[0,1,2,3,4,7,8,9,10,11,12,13,14])],mode:=[0,1,1,1,1]}
def feeH.h134:FHint:={drop:=tabN [(0,[2]),(1,[0,3,4])]}
def feeH.h135:FHint:={drop:=tabN [(0,[10,11,12,13,14,15,16,17,18,19]),(1,[0,2,21,22,23,24]),(2,[25,26,27]),(3,[29]),(5,[33]),(6,[34,35,36,37,38,39,40,41,42,43]),(7,[44,45,46,47]),(8,[6,48,49,50,51,52,53,54,55,56,57,58,59,60,61]),(9,[62]),(10,[63,64,65,66,67]),(11,[0,2,68,69,70,71]),(12,[3,72,73,74,75,76]),(13,[1,77,78,79]),(14,[7,80,81,82,83,84,85,86]),(19,[9,94,95,96,97,98]),(20,[99])],loopDrop:=tabN [(4,[6,32,33,34,35,36,37,38,39,40,41,42,43,44,45,46,47,48,49,50,51,52,53,54,55,56,57,58,59,60,61,62]),(17,[9,91,92,93,94,95,96,97,98,99])],mode:=[0,1,1,1,1]}
def feeH.h136:FHint:={drop:=tabN [(0,[1,4]),(1,[0,5,6,7,8])]}
def feeH.h137:FHint:={drop:=tabN [(0,[3]),(4,[11,12]),(5,[6,13,14,15,16,17,18]),(6,[19]),(7,[4,20,21])],loopDrop:=tabN [(3,[6,10,11,12,13,14,15,16,17,18,19])]}
def feeH.h138:FHint:={drop:=tabN [(0,[4]),(1,[0,1,5,6,7,8])]}
def feeH.h139:FHint:={drop:=tabN [(0,[0,3]),(1,[1,4,5,6,7])]}
def feeH.h140:FHint:={drop:=tabN [(0,[4]),(1,[7,8]),(2,[9,10]),(3,[5]),(4,[6]),(7,[6]),(9,[14,15]),(11,[0,1,17,18])]}
def feeH.h141:FHint:={drop:=tabN [(0,[2]),(1,[0,3,4,5])]}
def feeH.h142:FHint:={drop:=tabN [(0,[10,11]),(1,[12,13]),(2,[15,16]),(3,[17]),(4,[18,19,20,21,22,23,24,25,26,27,28,29,30,31,32,33]),(5,[35,36]),(6,[37,38,39,40,41,42,43,44,45,46,47,48,49,50,51,52])],loopDrop:=tabN [(1,[9,12,13,14,15,16,17,18,19,20,21,22,23,24,25,26,27,28,29,30,31,32,33,34,35,36,37,38,39,40,41,42,43,44,45,46,47,48,49,50,51,52]),(4,[18,19,20,21,22,23,24,25,26,27,28,29,30,31,32,33,34,35,36,37,38,39,40,41,42,43,44,45,46,47,48,49,50,51,52])],mode:=[1,0,0,0]}
def feeH.h143:FHint:={drop:=tabN [(0,[25,26,27]),(1,[2,29]),(2,[3,30]),(3,[31,32]),(4,[34,35,36,37,38,39]),(5,[40,41,42,43,44,45,46,47,48,49]),(6,[12,51,52]),(7,[12,53]),(8,[1,54]),(9,[55,56,57]),(10,[59,60]),(11,[61,62,63,64,65,66,67,68,69,70,71,72,73,74,75,76]),(12,[77,78,79]),(13,[1,81]),(14,[82]),(15,[83,84]),(16,[86,87,88,89,90,91]),(17,[92,93,94,95,96,97,98,99,100,101,102]),(18,[16,104,105]),(19,[16,106]),(20,[2,107]),(21,[108,109]),(22,[111,112]),(23,[113,114,115,116,117,118,119,120,121,122,123,124,125,126,127,128]),(24,[129,130,131,132,133,134]),(25,[135,136,137]),(26,[20,21]),(27,[138,139]),(28,[141,142,143]),(29,[144]),(30,[145]),(31,[146]),(32,[147,148]),(33,[149,150]),(34,[152,153,154,155,156,157]),(35,[158,159,160,161,162,163,164,165,166,167,168,169,170]),(36,[23,172,173]),(37,[23,174]),(38,[19,175,176,177]),(39,[178,179,180,181,182,183,184]),(40,[2,186,187,188,189,190,191]),(41,[192,193,194,195,196,197,198]),(42,[1,20,200,201,202,203,204,205]),(43,[206,207,208,209,210,211,212]),(44,[0,3,4,18,24,214,215,216,217,218,219])],loopDrop:=tabN [(3,[12,31,32,33,34,35,36,37,38,39,40,41,42,43,44,45,46,47,48,49,50,51,52,53]),(9,[55,56,57,58,59,60,61,62,63,64,65,66,67,68,69,70,71,72,73,74,75,76]),(15,[16,83,84,85,86,87,88,89,90,91,92,93,94,95,96,97,98,99,100,101,102,103,104,105,106]),(21,[108,109,110,111,112,113,114,115,116,117,118,119,120,121,122,123,124,125,126,127,128]),(33,[23,149,150,151,152,153,154,155,156,157,158,159,160,161,162,163,164,165,166,167,168,169,170,171,172,173,174])],take:=tabN [(1,[1]),(2,[1]),(7,[1]),(8,[1]),(13,[1]),(19,[1]),(20,[1]),(37,[1])]}
def feeH.h144:FHint:={drop:=tabN [(0,[4]),(1,[0,1,5,6,7,8])]}
def feeH.h145:FHint:={drop:=tabN [(0,[3]),(1,[0,1,4,5,6,7])]}
def feeH.h146:FHint:={drop:=tabN [(0,[4]),(1,[6]),(3,[10]),(4,[11,12,13,14,15]),(5,[5,17]),(6,[18])],loopDrop:=tabN [(2,[4,5,9,10,11,12,13,14,15,16,17,18])],take:=tabN [(5,[1])]}
def feeH.h147:FHint:={drop:=tabN [(0,[1,12,13,14]),(1,[3,15,16,17]),(2,[18,19]),(3,[21,22]),(4,[24,25,26,27,28,29,30,31]),(5,[32,33,34]),(6,[35,36,37,38,39,40,41,42,43,44,45,46]),(7,[47,48,49]),(8,[0,2,4,10,50,51,52,53,54,55,56,57])],loopDrop:=tabN [(2,[18,19,20,21,22,23,24,25,26,27,28,29,30,31,32,33,34,35,36,37,38,39,40,41,42,43,44,45,46,47,48,49])]}
def feeH.h148:FHint:={drop:=tabN [(0,[4]),(1,[6]),(3,[10]),(4,[11,12,13,14,15]),(5,[5,17]),(6,[18])],loopDrop:=tabN [(2,[4,5,9,10,11,12,13,14,15,16,17,18])],take:=tabN [(5,[1])]}
def feeH.h149:FHint:={drop:=tabN [(1,[11,12]),(2,[14,15]),(3,[16,17,18,19,20,21,22,23,24,25,26,27,28,29,30,31,32,33,34,35,36,37])],loopDrop:=tabN [(1,[11,12,13,14,15,16,17,18,19,20,21,22,23,24,25,26,27,28,29,30,31,32,33,34,35,36,37])]}
def feeH:Hints:=fun f=>hintN [(3,feeH.h3),(4,feeH.h4),(5,feeH.h5),(6,feeH.h6),(7,feeH.h7),(8,feeH.h8),(9,feeH.h9),(10,feeH.h10),(11,feeH.h11),(12,feeH.h12),(13,feeH.h13),(14,feeH.h14),(15,feeH.h15),(16,feeH.h16),(17,feeH.h17),(18,feeH.h18),(19,feeH.h19),(20,feeH.h20),(21,feeH.h21),(22,feeH.h22),(23,feeH.h23),(24,feeH.h24),(25,feeH.h25),(26,feeH.h26),(27,feeH.h27),(28,feeH.h28),(29,feeH.h29),(30,feeH.h30),(31,feeH.h31),(32,feeH.h32),(33,feeH.h33),(34,feeH.h34),(35,feeH.h35),(36,feeH.h36),(37,feeH.h37),(38,feeH.h38),(39,feeH.h39),(40,feeH.h40),(41,feeH.h41),(42,feeH.h42),(43,feeH.h43),(44,feeH.h44),(45,feeH.h45),(46,feeH.h46),(47,feeH.h47),(48,feeH.h48),(49,feeH.h49),(50,feeH.h50),(51,feeH.h51),(52,feeH.h52),(53,feeH.h53),(54,feeH.h54),(55,feeH.h55),(56,feeH.h56),(57,feeH.h57),(58,feeH.h58),(59,feeH.h59),(60,feeH.h60),(61,feeH.h61),(62,feeH.h62),(63,feeH.h63),(64,feeH.h64),(65,feeH.h65),(66,feeH.h66),(67,feeH.h67),(68,feeH.h68),(69,feeH.h69),(70,feeH.h70),(71,feeH.h71),(72,feeH.h72),(73,feeH.h73),(74,feeH.h74),(75,feeH.h75),(76,feeH.h76),(77,feeH.h77),(78,feeH.h78),(79,feeH.h79),(80,feeH.h80),(81,feeH.h81),(82,feeH.h82),(83,feeH.h83),(84,feeH.h84),(85,feeH.h85),(86,feeH.h86),(87,feeH.h87),(88,feeH.h88),(89,feeH.h89),(90,feeH.h90),(91,feeH.h91),(92,feeH.h92),(93,feeH.h93),(94,feeH.h94),(95,feeH.h95),(96,feeH.h96),(97,feeH.h97),(98,feeH.h98),(99,feeH.h99),(100,feeH.h100),(101,feeH.h101),(102,feeH.h102),(103,feeH.h103),(104,feeH.h104),(105,feeH.h105),(106,feeH.h106),(107,feeH.h107),(108,feeH.h108),(109,feeH.h109),(110,feeH.h110),(111,feeH.h111),(112,feeH.h112),(113,feeH.h113),(114,feeH.h114),(115,feeH.h115),(116,feeH.h116),(117,feeH.h117),(118,feeH.h118),(119,feeH.h119),(120,feeH.h120),(121,feeH.h121),(122,feeH.h122),(123,feeH.h123),(124,feeH.h124),(125,feeH.h125),(126,feeH.h126),(127,feeH.h127),(128,feeH.h128),(129,feeH.h129),(130,feeH.h130),(131,feeH.h131),(132,feeH.h132),(133,feeH.h133),(134,feeH.h134),(135,feeH.h135),(136,feeH.h136),(137,feeH.h137),(138,feeH.h138),(139,feeH.h139),(140,feeH.h140),(141,feeH.h141),(142,feeH.h142),(143,feeH.h143),(144,feeH.h144),(145,feeH.h145),(146,feeH.h146),(147,feeH.h147),(148,feeH.h148),(149,feeH.h149)] f
end Go.Eng
namespace Go.Eng
open Go
abbrev Al:=PV→Value→Prop
def noAl:Al:=fun _ _=>False
def RowAt (w:World) (b:Nat) (c:Array Value):Prop:=∃ e,w.heap[b]? = some (.cells c e (0,0))
def RowAny (w:World) (b:Nat) (c:Array Value):Prop:=∃ e fz,w.heap[b]? = some (.cells c e fz)
def seg (c:Array Value) (o n:Nat):List Value:=(c.toList.drop o).take n
def vAgg:Value→Bool
  | .agg _=>true
  | _=>false
def flat (us:List Value):List Value:=us.flatMap fun u=>u.cells.toList
mutual
def Rep (w:World) (Φ:Nat→Prop) (A:Al):PV→Value→List Nat→Prop
  | .bad,_,L=>L=[]
  | .und,v,L=>v=undef∧L=[]
  | .int k n,v,L=>v = .int k n∧L=[]
  | .bool b,v,L=>v = .bool b∧L=[]
  | .nilp,v,L=>v = .pointer none∧L=[]
  | .nilf,v,L=>v = .nilFunc∧L=[]
  | .nilm,v,L=>v = .map none∧L=[]
  | .nils _,v,L=>v = .slice none 0 0∧L=[]
  | .agg cs,v,L=>∃ vs:Array Value,v = .agg vs∧Reps w Φ A cs vs.toList L
  | .tup cs,v,L=>∃ vs:Array Value,v = .tuple vs∧Reps w Φ A cs vs.toList L
  | .sl xs,v,L=>L=[]∧((xs=[]∧∃ a n,v = .slice a 0 n)∨∃ a n c us sz,v = .slice (some a) xs.length n∧a.spot=none∧xs.length≤n∧Φ a.block∧RowAny w a.block c ∧
      (∀ x∈xs,x.cells.length=sz)∧((∀ u∈us,u.cells.size=sz)∧us.map vAgg=xs.map PV.isAgg)∧seg c a.off (xs.length*sz)=flat us∧Reps w Φ noAl xs us [])
  | .own sz xs,v,L=>(xs=[]∧L=[]∧v = .slice none 0 0)∨∃ a n c us L',L=a.block::L'∧v = .slice (some a) xs.length n∧a.spot=none∧xs.length≤n∧RowAt w a.block c∧a.off+n*sz≤c.size ∧
      (∀ x∈xs,x.cells.length=sz)∧((∀ u∈us,u.cells.size=sz)∧us.map vAgg=xs.map PV.isAgg)∧seg c a.off (xs.length*sz)=flat us∧Reps w Φ noAl xs us L'
  | .ref q,v,L=>L=[]∧∃ a c u,v = .pointer (some a)∧a.spot=none∧Φ a.block∧RowAny w a.block c∧seg c a.off q.cells.length=u.cells.toList∧(u.cells.size=q.cells.length∧vAgg u=q.isAgg)∧Rep w Φ A q u []
  | .box q,v,L=>∃ a c u L',L=a.block::L'∧v = .pointer (some a)∧a.spot=none∧RowAt w a.block c∧seg c a.off q.cells.length=u.cells.toList∧(u.cells.size=q.cells.length∧vAgg u=q.isAgg)∧Rep w Φ A q u L'
  | .map es,v,L=>L=[]∧∃ b ents,v = .map (some b)∧Φ b∧w.heap[b]? = some (.map ents es.length)∧RepM w Φ es ents.toList 0
  | .omap es,v,L=>∃ b ents,L=[b]∧v = .map (some b)∧w.heap[b]? = some (.map ents es.length)∧RepM w Φ es ents.toList 0
  | .func f first caps,v,L=>L=[]∧∃ fs cs:Array Value,v = .func (.func f) fs cs∧Reps w Φ A first fs.toList []∧Reps w Φ A caps cs.toList []
  | .addr r pre i c sh,v,L=>L=[]∧A (.addr r pre i c sh) v
  | .bor r pre z lo n,v,L=>L=[]∧A (.bor r pre z lo n) v
  | .bsl r pre i c sz ag n,v,L=>L=[]∧A (.bsl r pre i c sz ag n) v
  | .bmap r pre,v,L=>L=[]∧A (.bmap r pre) v
  | .lock q,v,L=>Rep w Φ A q v L
  | .yld h,v,L=>L=[]∧v = .func (.yield h) #[] #[]
  | .log xs k,v,L=>L=[]∧A (.log xs k) v
def Reps (w:World) (Φ:Nat→Prop) (A:Al):List PV→List Value→List Nat→Prop
  | [],vs,L=>vs=[]∧L=[]
  | p::ps,vs,L=>∃ v vs' L1 L2,vs=v::vs'∧L=L1++L2∧Rep w Φ A p v L1∧Reps w Φ A ps vs' L2
def RepM (w:World) (Φ:Nat→Prop):List (PV×PV)→List MapEntry→Nat→Prop
  | [],es,_=>es=[]
  | (k,p)::ps,es,i=>∃ e es',es=e::es'∧e.born=i∧Rep w Φ noAl k e.key []∧Rep w Φ noAl p e.val []∧RepM w Φ ps es' (i+1)
end
section
variable {w w':World} {Φ Φ':Nat→Prop}
theorem cells_mapW {f:PV→PV} (hf:∀ p,(f p).isAgg=p.isAgg) (p:PV):(p.mapW f).cells.length=p.cells.length:=by
  have one:∀ p:PV,p.isAgg=false→p.cells.length=1:=by intro p h;cases p<;>simp_all [PV.isAgg,PV.cells]
  have len:∀ ps:List PV,(mapWs f ps).length=ps.length:=by
    intro ps;induction ps with
    | nil=>rfl
    | cons p ps ih=>simp [mapWs,ih]
  cases p with
  | agg cs=>simp [PV.mapW,PV.cells,len]
  | addr r pre i c sh=>rw [PV.mapW,one _ (by rw [hf];rfl),one _ rfl]
  | bor r pre z lo n=>rw [PV.mapW,one _ (by rw [hf];rfl),one _ rfl]
  | bsl r pre i c z ag n=>rw [PV.mapW,one _ (by rw [hf];rfl),one _ rfl]
  | bmap r pre=>rw [PV.mapW,one _ (by rw [hf];rfl),one _ rfl]
  | log xs k=>rw [PV.mapW,one _ (by rw [hf];rfl),one _ rfl]
  | _=>rfl
theorem isAgg_mapW {f:PV→PV} (hf:∀ p,(f p).isAgg=p.isAgg) (p:PV):(p.mapW f).isAgg=p.isAgg:=by
  cases p<;>first | rfl | exact hf _
mutual
theorem Rep.map {A A':Al} {f:PV→PV} (hf:∀ p,(f p).isAgg=p.isAgg) (hΦ:∀ b,Φ b→Φ' b∧w'.heap[b]? = w.heap[b]?) (hA:∀ a v,a.isWay=true→A a v→Rep w' Φ' A' (f a) v []) :
    ∀ (p:PV) (v:Value) (L:List Nat),(∀ b∈L,w'.heap[b]? = w.heap[b]?)→Rep w Φ A p v L→Rep w' Φ' A' (p.mapW f) v L
  | .bad,_,_,_,h=>by simpa [Rep,PV.mapW] using h
  | .und,_,_,_,h=>by simpa [Rep,PV.mapW] using h
  | .int ..,_,_,_,h=>by simpa [Rep,PV.mapW] using h
  | .bool _,_,_,_,h=>by simpa [Rep,PV.mapW] using h
  | .nilp,_,_,_,h=>by simpa [Rep,PV.mapW] using h
  | .nilf,_,_,_,h=>by simpa [Rep,PV.mapW] using h
  | .nilm,_,_,_,h=>by simpa [Rep,PV.mapW] using h
  | .nils _,_,_,_,h=>by simpa [Rep,PV.mapW] using h
  | .agg cs,v,L,hw,h=>by
    obtain ⟨vs,rfl,h⟩:=h
    exact ⟨vs,rfl,Reps.map hf hΦ hA cs _ L hw h⟩
  | .tup cs,v,L,hw,h=>by
    obtain ⟨vs,rfl,h⟩:=h
    exact ⟨vs,rfl,Reps.map hf hΦ hA cs _ L hw h⟩
  | .sl xs,v,L,hw,h=>by
    obtain ⟨rfl,h | ⟨a,n,c,us,sz,h1,h2,h3,h4,⟨e,fz,h5⟩,h6,h7,h8,h9⟩⟩:=h
    · exact ⟨rfl,.inl h⟩
    · have:=Reps.same (A:=noAl) hΦ xs us [] (by simp) h9
      exact ⟨rfl,.inr ⟨a,n,c,us,sz,h1,h2,h3,(hΦ _ h4).1,⟨e,fz,(hΦ _ h4).2.trans h5⟩,h6,h7,h8,this⟩⟩
  | .own sz xs,v,L,hw,h=>by
    obtain h | ⟨a,n,c,us,L',rfl,h1,h2,h3,⟨e,h5⟩,h6,h7,h8,h9,h10⟩:=h
    · exact .inl h
    · have:=Reps.same (A:=noAl) hΦ xs us L' (fun b hb=>hw b (by simp [hb])) h10
      exact .inr ⟨a,n,c,us,L',rfl,h1,h2,h3,⟨e,(hw _ (by simp)).trans h5⟩,h6,h7,h8,h9,this⟩
  | .ref q,v,L,hw,h=>by
    obtain ⟨rfl,a,c,u,h1,h2,h3,⟨e,fz,h4⟩,h5,h6,h7⟩:=h
    have hc:(q.mapW f).cells.length=q.cells.length:=cells_mapW hf q
    exact ⟨rfl,a,c,u,h1,h2,(hΦ _ h3).1,⟨e,fz,(hΦ _ h3).2.trans h4⟩,by rw [hc];exact h5,by rw [hc,isAgg_mapW hf];exact h6,Rep.map hf hΦ hA q u [] (by simp) h7⟩
  | .box q,v,L,hw,h=>by
    obtain ⟨a,c,u,L',rfl,h1,h2,⟨e,h4⟩,h5,h6,h7⟩:=h
    have hc:(q.mapW f).cells.length=q.cells.length:=cells_mapW hf q
    exact ⟨a,c,u,L',rfl,h1,h2,⟨e,(hw _ (by simp)).trans h4⟩,by rw [hc];exact h5,by rw [hc,isAgg_mapW hf];exact h6,Rep.map hf hΦ hA q u L' (fun b hb=>hw b (by simp [hb])) h7⟩
  | .map es,v,L,hw,h=>by
    obtain ⟨rfl,b,ents,h1,h2,h3,h4⟩:=h
    exact ⟨rfl,b,ents,h1,(hΦ _ h2).1,(hΦ _ h2).2.trans h3,RepM.same hΦ es _ _ h4⟩
  | .omap es,v,L,hw,h=>by
    obtain ⟨b,ents,rfl,h1,h3,h4⟩:=h
    exact ⟨b,ents,rfl,h1,(hw _ (by simp)).trans h3,RepM.same hΦ es _ _ h4⟩
  | .func g a b,v,L,hw,h=>by
    obtain ⟨rfl,fs,cs,h1,h2,h3⟩:=h
    exact ⟨rfl,fs,cs,h1,Reps.map hf hΦ hA a _ [] (by simp) h2,Reps.map hf hΦ hA b _ [] (by simp) h3⟩
  | .addr ..,v,L,hw,h=>by obtain ⟨rfl,h⟩:=h;exact hA _ _ rfl h
  | .bor ..,v,L,hw,h=>by obtain ⟨rfl,h⟩:=h;exact hA _ _ rfl h
  | .bsl ..,v,L,hw,h=>by obtain ⟨rfl,h⟩:=h;exact hA _ _ rfl h
  | .bmap ..,v,L,hw,h=>by obtain ⟨rfl,h⟩:=h;exact hA _ _ rfl h
  | .lock q,v,L,hw,h=>Rep.map hf hΦ hA q v L hw h
  | .yld _,v,L,hw,h=>h
  | .log ..,v,L,hw,h=>by obtain ⟨rfl,h⟩:=h;exact hA _ _ rfl h
theorem Reps.map {A A':Al} {f:PV→PV} (hf:∀ p,(f p).isAgg=p.isAgg) (hΦ:∀ b,Φ b→Φ' b∧w'.heap[b]? = w.heap[b]?) (hA:∀ a v,a.isWay=true→A a v→Rep w' Φ' A' (f a) v []) :
    ∀ (ps:List PV) (vs:List Value) (L:List Nat),(∀ b∈L,w'.heap[b]? = w.heap[b]?)→Reps w Φ A ps vs L→Reps w' Φ' A' (mapWs f ps) vs L
  | [],_,_,_,h=>h
  | p::ps,vs,L,hw,h=>by
    obtain ⟨v,vs',L1,L2,rfl,rfl,h1,h2⟩:=h
    exact ⟨v,vs',L1,L2,rfl,rfl,Rep.map hf hΦ hA p v L1 (fun b hb=>hw b (by simp [hb])) h1,Reps.map hf hΦ hA ps vs' L2 (fun b hb=>hw b (by simp [hb])) h2⟩
theorem Rep.same {A:Al} (hΦ:∀ b,Φ b→Φ' b∧w'.heap[b]? = w.heap[b]?) :
    ∀ (p:PV) (v:Value) (L:List Nat),(∀ b∈L,w'.heap[b]? = w.heap[b]?)→Rep w Φ noAl p v L→Rep w' Φ' A p v L
  | .bad,_,_,_,h=>h
  | .und,_,_,_,h=>h
  | .int ..,_,_,_,h=>h
  | .bool _,_,_,_,h=>h
  | .nilp,_,_,_,h=>h
  | .nilf,_,_,_,h=>h
  | .nilm,_,_,_,h=>h
  | .nils _,_,_,_,h=>h
  | .agg cs,v,L,hw,h=>by
    obtain ⟨vs,rfl,h⟩:=h
    exact ⟨vs,rfl,Reps.same hΦ cs _ L hw h⟩
  | .tup cs,v,L,hw,h=>by
    obtain ⟨vs,rfl,h⟩:=h
    exact ⟨vs,rfl,Reps.same hΦ cs _ L hw h⟩
  | .sl xs,v,L,hw,h=>by
    obtain ⟨rfl,h | ⟨a,n,c,us,sz,h1,h2,h3,h4,⟨e,fz,h5⟩,h6,h7,h8,h9⟩⟩:=h
    · exact ⟨rfl,.inl h⟩
    · have:=Reps.same (A:=noAl) hΦ xs us [] (by simp) h9
      exact ⟨rfl,.inr ⟨a,n,c,us,sz,h1,h2,h3,(hΦ _ h4).1,⟨e,fz,(hΦ _ h4).2.trans h5⟩,h6,h7,h8,this⟩⟩
  | .own sz xs,v,L,hw,h=>by
    obtain h | ⟨a,n,c,us,L',rfl,h1,h2,h3,⟨e,h5⟩,h6,h7,h8,h9,h10⟩:=h
    · exact .inl h
    · have:=Reps.same (A:=noAl) hΦ xs us L' (fun b hb=>hw b (by simp [hb])) h10
      exact .inr ⟨a,n,c,us,L',rfl,h1,h2,h3,⟨e,(hw _ (by simp)).trans h5⟩,h6,h7,h8,h9,this⟩
  | .ref q,v,L,hw,h=>by
    obtain ⟨rfl,a,c,u,h1,h2,h3,⟨e,fz,h4⟩,h5,h6,h7⟩:=h
    exact ⟨rfl,a,c,u,h1,h2,(hΦ _ h3).1,⟨e,fz,(hΦ _ h3).2.trans h4⟩,h5,h6,Rep.same hΦ q u [] (by simp) h7⟩
  | .box q,v,L,hw,h=>by
    obtain ⟨a,c,u,L',rfl,h1,h2,⟨e,h4⟩,h5,h6,h7⟩:=h
    exact ⟨a,c,u,L',rfl,h1,h2,⟨e,(hw _ (by simp)).trans h4⟩,h5,h6,Rep.same hΦ q u L' (fun b hb=>hw b (by simp [hb])) h7⟩
  | .map es,v,L,hw,h=>by
    obtain ⟨rfl,b,ents,h1,h2,h3,h4⟩:=h
    exact ⟨rfl,b,ents,h1,(hΦ _ h2).1,(hΦ _ h2).2.trans h3,RepM.same hΦ es _ _ h4⟩
  | .omap es,v,L,hw,h=>by
    obtain ⟨b,ents,rfl,h1,h3,h4⟩:=h
    exact ⟨b,ents,rfl,h1,(hw _ (by simp)).trans h3,RepM.same hΦ es _ _ h4⟩
  | .func g a b,v,L,hw,h=>by
    obtain ⟨rfl,fs,cs,h1,h2,h3⟩:=h
    exact ⟨rfl,fs,cs,h1,Reps.same hΦ a _ [] (by simp) h2,Reps.same hΦ b _ [] (by simp) h3⟩
  | .addr ..,v,L,hw,h=>h.2.elim
  | .bor ..,v,L,hw,h=>h.2.elim
  | .bsl ..,v,L,hw,h=>h.2.elim
  | .bmap ..,v,L,hw,h=>h.2.elim
  | .lock q,v,L,hw,h=>Rep.same hΦ q v L hw h
  | .yld _,v,L,hw,h=>h
  | .log ..,v,L,hw,h=>h.2.elim
theorem Reps.same {A:Al} (hΦ:∀ b,Φ b→Φ' b∧w'.heap[b]? = w.heap[b]?) :
    ∀ (ps:List PV) (vs:List Value) (L:List Nat),(∀ b∈L,w'.heap[b]? = w.heap[b]?)→Reps w Φ noAl ps vs L→Reps w' Φ' A ps vs L
  | [],_,_,_,h=>h
  | p::ps,vs,L,hw,h=>by
    obtain ⟨v,vs',L1,L2,rfl,rfl,h1,h2⟩:=h
    exact ⟨v,vs',L1,L2,rfl,rfl,Rep.same hΦ p v L1 (fun b hb=>hw b (by simp [hb])) h1,Reps.same hΦ ps vs' L2 (fun b hb=>hw b (by simp [hb])) h2⟩
theorem RepM.same (hΦ:∀ b,Φ b→Φ' b∧w'.heap[b]? = w.heap[b]?):∀ (ps:List (PV×PV)) (es:List MapEntry) (i:Nat),RepM w Φ ps es i→RepM w' Φ' ps es i
  | [],_,_,h=>h
  | (k,p)::ps,es,i,h=>by
    obtain ⟨e,es',rfl,h0,h1,h2,h3⟩:=h
    exact ⟨e,es',rfl,h0,Rep.same hΦ k _ [] (by simp) h1,Rep.same hΦ p _ [] (by simp) h2,RepM.same hΦ ps es' (i+1) h3⟩
end
end
mutual
theorem mapW_id:∀ p:PV,p.mapW (fun x=>x)=p
  | .agg cs=>by rw [PV.mapW,mapWs_id]
  | .tup cs=>by rw [PV.mapW,mapWs_id]
  | .func g a b=>by rw [PV.mapW,mapWs_id,mapWs_id]
  | .ref q=>by rw [PV.mapW,mapW_id]
  | .box q=>by rw [PV.mapW,mapW_id]
  | .lock q=>by rw [PV.mapW,mapW_id]
  | .addr .. => rfl
  | .bor .. => rfl
  | .bsl .. => rfl
  | .bmap .. => rfl
  | .yld .. => rfl
  | .log .. => rfl
  | .bad=>rfl
  | .und=>rfl
  | .int .. => rfl
  | .bool .. => rfl
  | .nilp=>rfl
  | .nilf=>rfl
  | .nilm=>rfl
  | .nils _=>rfl
  | .sl _=>rfl
  | .own .. => rfl
  | .map _=>rfl
  | .omap _=>rfl
theorem mapWs_id:∀ ps:List PV,mapWs (fun x=>x) ps=ps
  | []=>rfl
  | p::ps=>by rw [mapWs,mapW_id,mapWs_id]
end
def Same (w w':World) (Φ Φ':Nat→Prop):Prop:=∀ b,Φ b→Φ' b∧w'.heap[b]? = w.heap[b]?
theorem rep_way {w:World} {Φ:Nat→Prop} {A:Al} {a:PV} {v:Value} (hw:a.isWay=true) (h:A a v):Rep w Φ A a v []:=by
  cases a<;>first | exact ⟨rfl,h⟩ | exact absurd hw (by simp [PV.isWay])
section
variable {w w':World} {Φ Φ':Nat→Prop} {A A':Al}
theorem Rep.mono (hΦ:Same w w' Φ Φ') (hA:∀ a v,a.isWay=true→A a v→A' a v) {p:PV} {v:Value} {L:List Nat} (hw:∀ b∈L,w'.heap[b]? = w.heap[b]?) (h:Rep w Φ A p v L):Rep w' Φ' A' p v L:=by
  have:=Rep.map (f:=fun x=>x) (fun _=>rfl) hΦ (fun a v hw h=>rep_way hw (hA a v hw h)) p v L hw h
  rwa [mapW_id] at this
theorem Reps.mono (hΦ:Same w w' Φ Φ') (hA:∀ a v,a.isWay=true→A a v→A' a v) {p:List PV} {v:List Value} {L:List Nat} (hw:∀ b∈L,w'.heap[b]? = w.heap[b]?) (h:Reps w Φ A p v L):Reps w' Φ' A' p v L:=by
  have:=Reps.map (f:=fun x=>x) (fun _=>rfl) hΦ (fun a v hw h=>rep_way hw (hA a v hw h)) p v L hw h
  rwa [mapWs_id] at this
theorem Same.refl:Same w w Φ Φ:=fun _ h=>⟨h,rfl⟩
theorem Reps.split:∀ {ps:List PV} {vs:List Value} {L:List Nat},Reps w Φ A ps vs L→∀ {i:Nat} {p:PV},ps[i]? = some p →
    ∃ v La Li Lb,vs[i]? = some v∧L=La++Li++Lb∧Rep w Φ A p v Li ∧
      (∀ w' Φ' (A':Al) p' Li',(∀ a v,a.isWay=true→A a v→A' a v)→Same w w' Φ Φ'→(∀ b∈La++Lb,w'.heap[b]? = w.heap[b]?)→Rep w' Φ' A' p' v Li'→Reps w' Φ' A' (ps.set i p') vs (La++Li'++Lb)) ∧
      ∀ j p2,j≠i→ps[j]? = some p2→∃ v2 L2,vs[j]? = some v2∧Rep w Φ A p2 v2 L2∧∀ b∈L2,b∈La++Lb
  | [],_,_,_,_,_,hp=>by simp at hp
  | q :: ps,vs,L,h,0,p,hp=>by
    obtain ⟨v,vs',L1,L2,rfl,rfl,h1,h2⟩:=h
    simp at hp;subst hp
    refine ⟨v,[],L1,L2,rfl,by simp,h1,?_,?_⟩
    · intro w' Φ' A' p' Li' hA hs hb hr
      exact ⟨v,vs',Li',L2,rfl,by simp,hr,h2.mono hs hA (by simpa using hb)⟩
    · intro j p2 hj hp2
      cases j with
      | zero=>exact absurd rfl hj
      | succ j =>
        obtain ⟨v2,La,Li,Lb,hv2,rfl,hr2,_⟩:=h2.split (i:=j) (p:=p2) (by simpa using hp2)
        exact ⟨v2,Li,by simpa using hv2,hr2,fun b hb=>by simp [hb]⟩
  | q :: ps,vs,L,h,i+1,p,hp=>by
    obtain ⟨v,vs',L1,L2,rfl,rfl,h1,h2⟩:=h
    obtain ⟨u,La,Li,Lb,hu,rfl,hr,hk,ho⟩:=h2.split (i:=i) (by simpa using hp)
    refine ⟨u,L1++La,Li,Lb,by simpa using hu,by simp,hr,?_,?_⟩
    rotate_left
    · intro j p2 hj hp2
      cases j with
      | zero=>simp at hp2;subst hp2;exact ⟨v,L1,rfl,h1,fun b hb=>by simp [hb]⟩
      | succ j =>
        obtain ⟨v2,L2,h1',h2',h3'⟩:=ho j p2 (by omega) (by simpa using hp2)
        exact ⟨v2,L2,by simpa using h1',h2',fun b hb=>by have:=h3' b hb;simp at this ⊢;rcases this with h | h<;>simp [h]⟩
    intro w' Φ' A' p' Li' hA hs hb hr'
    exact ⟨v,vs',L1,La++Li'++Lb,rfl,by simp,h1.mono hs hA (fun b h=>hb b (by simp [h])),hk w' Φ' A' p' Li' hA hs (fun b h=>hb b (by rcases List.mem_append.1 h with h | h<;>simp [h])) hr'⟩
theorem Reps.length:∀ {ps:List PV} {vs:List Value} {L:List Nat},Reps w Φ A ps vs L→vs.length=ps.length
  | [],_,_,h=>by simp [h.1]
  | _::_,_,_,h=>by
    obtain ⟨v,vs',L1,L2,rfl,rfl,h1,h2⟩:=h
    simp [h2.length]
end
def cellOf (a:Addr) (k:Nat):Addr:=⟨a.block,a.off+k,none⟩
def kid (w:World):Value→PV→Nat→Nat→Option Value
  | .slice (some a) _ _,.own sz _,i,c=>w.cell? (cellOf a (i*sz+c))
  | .pointer (some a),.box _,_,c=>w.cell? (cellOf a c)
  | .agg vs,.agg _,_,c=>vs[c]?
  | _,_,_,_=>none
def follow (w:World):Value→PV→Path→Option (Value×PV)
  | v,p,[]=>some (v,p)
  | v, p, (i,c)::rest =>
    match helems p with
    | some xs=>match xs[i]? with
      | some x=>match x.cells[c]? with
        | some q=>match kid w v p i c with
          | some u=>follow w u q rest
          | none=>none
        | none=>none
      | none=>none
    | none=>none
def addrIn:Value→PV→Nat→Nat→Option Addr
  | .slice (some a) _ _,.own sz _,i,c=>some (cellOf a (i*sz+c))
  | .pointer (some a),.box _,0,c=>some (cellOf a c)
  | _,_,_,_=>none
def sliceIn (v nv:Value) (sz lo n:Nat):Prop :=
  match nv with
  | .slice none _ _=>v = .slice none 0 0∧n=0
  | .slice (some a) _ cap=>v = .slice (some (cellOf a (lo*sz))) n (cap-lo)∧lo+n≤cap
  | _=>False
def AlOf (w:World) (rv:Nat→Value) (E:Nat→PV):Al
  | .addr r pre i c _,v=>r<ghost∧∃ a,v = .pointer (some a)∧a.spot=none∧∀ nv np,follow w (rv r) (E r).unlock pre=some (nv,np)→∀ a',addrIn nv np i c=some a'→a=a'
  | .bor r pre z lo n,v=>r<ghost∧(∃ a cap,v = .slice a n cap∧n≤cap∧(a=none→cap=0)∧∀ b,a=some b→b.spot=none) ∧
      ∀ nv np,follow w (rv r) (E r).unlock pre=some (nv,np)→np.heavy0=true→∃ sz xs,np = .own sz xs∧z=sz∧sliceIn v nv sz lo n
  | .bsl r pre i c _ _ n,v=>r<ghost∧∃ a cap,v = .slice (some a) n cap∧n≤cap∧a.spot=none ∧
      ∀ nv np,follow w (rv r) (E r).unlock pre=some (nv,np)→∀ a',addrIn nv np i c=some a'→a=a'
  | .bmap r pre,v=>r<ghost∧(∃ b,v = .map (some b))∧∀ nv np,follow w (rv r) (E r).unlock pre=some (nv,np)→∀ es,np = .omap es→v=nv
  | _,_=>False
def child (p:PV) (i c:Nat):Option PV:=(helems p).bind fun xs=>(xs[i]?).bind fun x=>x.cells[c]?
theorem getNode_cons (p:PV) (i c:Nat) (rest:Path):getNode p ((i,c)::rest)=(child p i c).bind (getNode · rest):=by
  simp only [getNode,child];split
  · rename_i xs h;rw [h];simp only [Option.bind_some];split
    · rename_i x h;rw [h];simp only [Option.bind_some];split
      · rename_i q h;rw [h];rfl
      · rename_i h;rw [h];rfl
    · rename_i h;rw [h];rfl
  · rename_i h;rw [h];rfl
theorem follow_cons (w:World) (v:Value) (p:PV) (i c:Nat) (rest:Path):follow w v p ((i,c)::rest)=(child p i c).bind fun q=>(kid w v p i c).bind fun u=>follow w u q rest:=by
  simp only [follow,child];split
  · rename_i xs h;rw [h];simp only [Option.bind_some];split
    · rename_i x h;rw [h];simp only [Option.bind_some];split
      · rename_i q h;rw [h];simp only [Option.bind_some];split
        · rename_i h;rw [h];rfl
        · rename_i h;rw [h];rfl
      · rename_i h;rw [h];rfl
    · rename_i h;rw [h];rfl
  · rename_i h;rw [h];rfl
def putCell (p:PV) (i c:Nat) (q':PV):Option PV:=(helems p).bind fun xs=>(xs[i]?).bind fun x=>withElems p (xs.set i (setCells x c [q']))
theorem modNode_cons (f:PV→Option PV) (p:PV) (i c:Nat) (rest:Path):modNode f p ((i,c)::rest)=(child p i c).bind fun q=>(modNode f q rest).bind fun q'=>putCell p i c q':=by
  simp only [modNode,child,putCell];split
  · rename_i xs h;rw [h];simp only [Option.bind_some];split
    · rename_i x h;rw [h];simp only [Option.bind_some];split
      · rename_i q h;rw [h];simp only [Option.bind_some];split
        · rename_i h;rw [h];rfl
        · rename_i h;rw [h];rfl
      · rename_i h;rw [h];rfl
    · rename_i h;rw [h];rfl
  · rename_i h;rw [h];rfl
section
variable {w w':World} {Φ Φ':Nat→Prop} {A:Al}
theorem Rep.cell {p:PV} {v:Value} {L:List Nat} (h:Rep w Φ A p v L) {c:Nat} {q:PV} (hq:p.cells[c]? = some q) (hn:vAgg v=p.isAgg) :
    ∃ u La Li Lb,v.cells.toList[c]? = some u∧L=La++Li++Lb∧Rep w Φ A q u Li ∧
      (∀ w' Φ' (A':Al) q' Li',(∀ a v,a.isWay=true→A a v→A' a v)→Same w w' Φ Φ'→(∀ b∈La++Lb,w'.heap[b]? = w.heap[b]?)→q'.isAgg=q.isAgg→Rep w' Φ' A' q' u Li'→Rep w' Φ' A' (setCells p c [q']) v (La++Li'++Lb)∧(setCells p c [q']).cells.length=p.cells.length∧(setCells p c [q']).isAgg=p.isAgg) ∧
      ∀ c2 q2,c2≠c→p.cells[c2]? = some q2→∃ u2 L2,v.cells.toList[c2]? = some u2∧Rep w Φ A q2 u2 L2∧∀ b∈L2,b∈La++Lb:=by
  cases hp:p.isAgg with
  | true =>
    cases p<;>simp [PV.isAgg] at hp
    rename_i cs
    obtain ⟨vs,rfl,h⟩:=h
    obtain ⟨u,La,Li,Lb,hu,rfl,hr,hk,ho⟩:=h.split hq
    have hc:c<cs.length:=(List.getElem?_eq_some_iff.1 hq).1
    refine ⟨u,La,Li,Lb,hu,rfl,hr,fun w' Φ' A' q' Li' hA hs hb _ hr'=>?_,fun c2 q2 hne h2=>ho c2 q2 hne h2⟩
    have he:cs.take c++[q']++cs.drop (c+1)=cs.set c q':=by
      rw [List.set_eq_take_append_cons_drop,if_pos hc];simp
    refine ⟨⟨vs,rfl,?_⟩,?_,rfl⟩
    · show Reps w' Φ' A' (cs.take c++[q']++cs.drop (c+1)) _ _
      rw [he];exact hk w' Φ' A' q' Li' hA hs hb hr'
    · show (cs.take c++[q']++cs.drop (c+1)).length=cs.length
      rw [he];simp
  | false =>
    have hcs:p.cells=[p]:=by cases p<;>first | rfl | simp [PV.isAgg] at hp
    have hv:v.cells=#[v]:=by rw [hp] at hn;cases v<;>first | rfl | simp [vAgg] at hn
    rw [hcs] at hq
    have hc:c=0:=by
      have:=(List.getElem?_eq_some_iff.1 hq).1;simp at this;exact this
    subst hc;simp at hq;subst hq
    refine ⟨v,[],L,[],by simp [hv],by simp,h,fun w' Φ' A' q' Li' hA hs hb hq' hr'=>?_,fun c2 q2 hne h2=>?_⟩
    rotate_left
    · rw [hcs] at h2
      have:=(List.getElem?_eq_some_iff.1 h2).1;simp at this;omega
    replace hq':q'.isAgg=false:=hq'.trans hp
    have he:setCells p 0 [q']=q':=by cases p<;>first | rfl | simp [PV.isAgg] at hp
    rw [he]
    refine ⟨by simpa using hr',?_,hq'⟩
    rw [hcs];cases q'<;>first | rfl | simp [PV.isAgg] at hq'
end
theorem map_set_same {α β:Type} {f:α→β}:∀ {xs:List α} {i:Nat} {x y:α},xs[i]? = some x→f y=f x→(xs.set i y).map f=xs.map f
  | [],_,_,_,h,_=>by simp at h
  | z::xs,0,x,y,h,e=>by simp at h;subst h;simp [e]
  | z::xs,i+1,x,y,h,e=>by
    have:=map_set_same (xs:=xs) (i:=i) (by simpa using h) e
    simpa using this
theorem flat_get {sz:Nat}:∀ {us:List Value},(∀ u∈us,u.cells.size=sz)→∀ {i c:Nat} {x u:Value},us[i]? = some x→x.cells.toList[c]? = some u→(flat us)[i*sz+c]? = some u
  | [],_,_,_,_,_,h,_=>by simp at h
  | y::us,hs,0,c,x,u,h,hc=>by
    simp at h;subst h
    have:c<y.cells.toList.length:=(List.getElem?_eq_some_iff.1 hc).1
    simp only [flat,List.flatMap_cons,Nat.zero_mul,Nat.zero_add]
    rw [List.getElem?_append_left this];exact hc
  | y::us,hs,i+1,c,x,u,h,hc=>by
    have ih:=flat_get (us:=us) (fun u hu=>hs u (by simp [hu])) (i:=i) (by simpa using h) hc
    have hy:y.cells.toList.length=sz:=by simpa using hs y (by simp)
    simp only [flat,List.flatMap_cons]
    rw [List.getElem?_append_right (by rw [hy,Nat.succ_mul];omega),hy]
    rw [show (i+1)*sz+c-sz=i*sz+c by rw [Nat.succ_mul];omega]
    exact ih
theorem seg_get {c:Array Value} {o n k:Nat} {u:Value} (h:(seg c o n)[k]? = some u):c[o+k]? = some u:=by
  simp only [seg,List.getElem?_take,List.getElem?_drop] at h
  split at h
  · simpa using h
  · cases h
theorem cell_row {w:World} {b:Nat} {c:Array Value} (h:RowAny w b c) (k:Nat):w.cell? ⟨b,k,none⟩=c[k]?:=by
  obtain ⟨e,fz,h⟩:=h
  simp [World.cell?,h]
theorem RowAt.any {w:World} {b:Nat} {c:Array Value} (h:RowAt w b c):RowAny w b c:=by
  obtain ⟨e,h⟩:=h;exact ⟨e,_,h⟩
def below (A:Al):PV→Al
  | .own .. => noAl
  | _=>A
theorem below_mono {A A':Al} {p:PV} (hA:∀ a v,a.isWay=true→A a v→A' a v):∀ a v,a.isWay=true→below A p a v→below A' p a v:=by
  intro a v hw h
  cases p<;>first | exact hA a v hw h | exact h.elim
section
variable {w w':World} {Φ Φ':Nat→Prop} {A:Al}
theorem Rep.child {p:PV} {v:Value} {L:List Nat} (h:Rep w Φ A p v L) {i c:Nat} {q:PV} (hq:child p i c=some q) :
    ∃ u La Li Lb,kid w v p i c=some u∧L=La++Li++Lb∧Rep w Φ (below A p) q u Li ∧
      (∀ w' Φ' (A':Al) q' Li' p',(∀ a v,a.isWay=true→A a v→A' a v)→Same w w' Φ Φ'→(∀ b∈La++Lb,w'.heap[b]? = w.heap[b]?)→q'.isAgg=q.isAgg→Rep w' Φ' (below A' p) q' u Li'→putCell p i c q'=some p'→Rep w' Φ' A' p' v (La++Li'++Lb)) ∧
      (∀ w',(∀ b∈La++Lb,w'.heap[b]? = w.heap[b]?)→∀ q' p',putCell p i c q'=some p'→∀ i2 c2,kid w' v p' i2 c2=kid w v p i2 c2) ∧
      ∀ i2 c2 q2,(i2,c2)≠(i,c)→Eng.child p i2 c2=some q2→∃ u2 L2,kid w v p i2 c2=some u2∧Rep w Φ (below A p) q2 u2 L2∧∀ b∈L2,b∈La++Lb:=by
  cases p<;>simp only [Eng.child,helems,Option.bind_none,Option.bind_some] at hq<;>try cases hq
  case agg cs =>
    obtain ⟨vs,rfl,h⟩:=h
    have hi:i=0:=by
      cases i with
      | zero=>rfl
      | succ i=>simp at hq
    subst hi;simp [PV.cells] at hq
    obtain ⟨u,La,Li,Lb,hu,rfl,hr,hk,ho⟩:=h.split (i:=c) (p:=q) (by simpa using hq)
    refine ⟨u,La,Li,Lb,by simpa [kid] using hu,rfl,hr,fun w' Φ' A' q' Li' p' hA hs hb _ hr' hp=>?_,?_,?_⟩
    rotate_left
    · intro w' hb q' p' hp i2 c2
      simp only [putCell,helems,withElems,setCells,Option.bind_some,List.getElem?_cons_zero,List.set_cons_zero] at hp
      cases hp;rfl
    · intro i2 c2 q2 hne h2
      have hi2:i2=0:=by
        cases i2 with
        | zero=>rfl
        | succ i=>simp [Eng.child,helems] at h2
      subst hi2
      simp [Eng.child,helems,PV.cells] at h2
      obtain ⟨u2,L2,h3,h4,h5⟩:=ho c2 q2 (fun e=>hne (by rw [e])) h2
      exact ⟨u2,L2,by simpa [kid] using h3,h4,h5⟩
    have hc:c<cs.length:=(List.getElem?_eq_some_iff.1 hq).1
    have he:cs.take c++[q']++cs.drop (c+1)=cs.set c q':=by
      rw [List.set_eq_take_append_cons_drop,if_pos hc];simp
    simp only [putCell,helems,withElems,setCells,Option.bind_some,List.getElem?_cons_zero,List.set_cons_zero,List.length_singleton,he] at hp
    cases hp
    exact ⟨vs,rfl,hk w' Φ' A' q' Li' hA hs hb hr'⟩
  case box q0 =>
    obtain ⟨a,r,u0,L',rfl,h1,h2,h4,h5,⟨h6,h6'⟩,h7⟩:=h
    have hi:i=0:=by
      cases i with
      | zero=>rfl
      | succ i=>simp at hq
    subst hi;simp at hq
    obtain ⟨u,La,Li,Lb,hu,rfl,hr,hk,ho⟩:=h7.cell hq h6'
    have hkid:∀ c2 u2,u0.cells.toList[c2]? = some u2→kid w v (.box q0) 0 c2=some u2:=by
      intro c2 u2 h
      subst h1
      have:=seg_get (c:=r) (o:=a.off) (n:=q0.cells.length) (k:=c2) (u:=u2) (by rw [h5];exact h)
      simp only [kid,cellOf]
      rw [cell_row h4.any];exact this
    refine ⟨u,a.block::La,Li,Lb,?_,by simp,hr,fun w' Φ' A' q' Li' p' hA hs hb hq' hr' hp=>?_,?_,?_⟩
    rotate_left 2
    · intro w' hb q' p' hp i2 c2
      simp only [putCell,helems,withElems,Option.bind_some,List.getElem?_cons_zero,List.set_cons_zero] at hp
      cases hp;subst h1
      simp only [kid,World.cell?,cellOf]
      rw [hb a.block (by simp)]
    · intro i2 c2 q2 hne h2
      have hi2:i2=0:=by
        cases i2 with
        | zero=>rfl
        | succ i=>simp [Eng.child,helems] at h2
      subst hi2
      simp [Eng.child,helems] at h2
      obtain ⟨u2,L2,h3,h4',h5'⟩:=ho c2 q2 (fun e=>hne (by rw [e])) h2
      exact ⟨u2,L2,hkid c2 u2 h3,h4',fun b hb=>by have:=h5' b hb;simp at this ⊢;rcases this with h | h<;>simp [h]⟩
    · subst h1
      have:c<q0.cells.length:=(List.getElem?_eq_some_iff.1 hq).1
      have:=seg_get (c:=r) (o:=a.off) (n:=q0.cells.length) (k:=c) (u:=u) (by rw [h5];exact hu)
      simp only [kid,cellOf]
      rw [cell_row h4.any];exact this
    · obtain ⟨hx,hl,hg⟩:=hk w' Φ' A' q' Li' hA hs (fun b h=>hb b (by simp at h ⊢;rcases h with h | h<;>simp [h])) hq' hr'
      simp only [putCell,helems,withElems,Option.bind_some,List.getElem?_cons_zero,List.set_cons_zero] at hp
      cases hp
      obtain ⟨e,h4⟩:=h4
      refine ⟨a,r,u0,La++Li'++Lb,by simp,h1,h2,⟨e,?_⟩,by rw [hl];exact h5,⟨by rw [hl];exact h6,by rw [hg];exact h6'⟩,hx⟩
      rw [hb a.block (by simp)];exact h4
  case own sz xs =>
    obtain ⟨h1,h2,h3⟩ | ⟨a,n,r,us,L',rfl,h1,h2,h3,h4,h5,h6,⟨h7,h7'⟩,h8,h9⟩:=h
    · subst h1;simp at hq
    · cases hx:xs[i]? with
      | none=>rw [hx] at hq;simp at hq
      | some x =>
        rw [hx] at hq;simp at hq
        obtain ⟨ux,La,Li,Lb,hu,rfl,hr,hk,ho⟩:=h9.split hx
        have hg:vAgg ux=x.isAgg:=by
          have h1:(us.map vAgg)[i]? = some (vAgg ux):=by simp [hu]
          have h2:(xs.map PV.isAgg)[i]? = some x.isAgg:=by simp [hx]
          rw [h7'] at h1;rw [h1] at h2;simpa using h2
        obtain ⟨u,La',Li',Lb',hu',rfl,hr',hk',ho'⟩:=hr.cell hq hg
        have hkid:∀ i2 c2 x2 u2,us[i2]? = some x2→x2.cells.toList[c2]? = some u2→kid w v (.own sz xs) i2 c2=some u2:=by
          intro i2 c2 x2 u2 hx2 hu2
          subst h1
          have hf:=flat_get h7 hx2 hu2
          rw [← h8] at hf
          have:=seg_get hf
          simp only [kid,cellOf]
          rw [cell_row h4.any];exact this
        refine ⟨u,a.block::(La++La'),Li',Lb'++Lb,?_,by simp,hr',fun w' Φ' A' q' Lj p' hA hs hb hq' hrq hp=>?_,?_,?_⟩
        rotate_left 2
        · intro w' hb q' p' hp i2 c2
          simp only [putCell,helems,withElems,Option.bind_some,hx] at hp
          cases hp;subst h1
          simp only [kid,World.cell?,cellOf]
          rw [hb a.block (by simp)]
        · intro i2 c2 q2 hne h2
          simp only [Eng.child,helems,Option.bind_some] at h2
          cases hx2:xs[i2]? with
          | none=>rw [hx2] at h2;cases h2
          | some x2 =>
            rw [hx2] at h2;simp only [Option.bind_some] at h2
            by_cases hii:i2=i
            · subst hii
              rw [hx] at hx2;cases hx2
              obtain ⟨u2,L2,h3,h4',h5'⟩:=ho' c2 q2 (fun e=>hne (by rw [e])) h2
              exact ⟨u2,L2,hkid _ _ _ _ hu h3,h4',fun b hb=>by have:=h5' b hb;simp at this ⊢;rcases this with h | h<;>simp [h]⟩
            · obtain ⟨ux2,L2,h3,h4',h5'⟩:=ho i2 x2 hii hx2
              have hg2:vAgg ux2=x2.isAgg:=by
                have h1:(us.map vAgg)[i2]? = some (vAgg ux2):=by simp [h3]
                have h2:(xs.map PV.isAgg)[i2]? = some x2.isAgg:=by simp [hx2]
                rw [h7'] at h1;rw [h1] at h2;simpa using h2
              obtain ⟨u2,Ma,Mi,Mb,h6',rfl,h7'',_⟩:=h4'.cell h2 hg2
              exact ⟨u2,Mi,hkid _ _ _ _ h3 h6',h7'',fun b hb=>by have:=h5' b (by simp [hb]);simp at this ⊢;rcases this with h | h<;>simp [h]⟩
        · subst h1
          have hf:=flat_get h7 hu hu'
          rw [← h8] at hf
          have:=seg_get hf
          simp only [kid,cellOf]
          rw [cell_row h4.any];exact this
        · obtain ⟨hx',hl,hg'⟩:=hk' w' Φ' noAl q' Lj (fun _ _ _ h=>h) hs (fun b h=>hb b (by simp at h ⊢;rcases h with h | h<;>simp [h])) hq' hrq
          have hk:=hk w' Φ' noAl _ _ (fun _ _ _ h=>h) hs (fun b h=>hb b (by simp at h ⊢;rcases h with h | h<;>simp [h])) hx'
          simp only [putCell,helems,withElems,Option.bind_some,hx] at hp
          cases hp
          obtain ⟨e,h4⟩:=h4
          refine .inr ⟨a,n,r,us,La++(La'++Lj++Lb')++Lb,by simp,by simpa using h1,h2,by simpa using h3,⟨e,?_⟩,h5,?_,⟨h7,?_⟩,by simpa using h8,hk⟩
          · rw [hb a.block (by simp)];exact h4
          · intro y hy
            rcases List.mem_or_eq_of_mem_set hy with hy | hy
            · exact h6 y hy
            · rw [hy,hl];exact h6 x (List.mem_of_getElem? hx)
          · rw [h7',map_set_same hx hg']
end
def alOn:Al→PV→Path→Al
  | A,_,[]=>A
  | A,p,(i,c)::rest=>match child p i c with
    | some q=>alOn (below A p) q rest
    | none=>noAl
theorem putCell_isAgg {p:PV} {i c:Nat} {q' p':PV} (h:putCell p i c q'=some p'):p'.isAgg=p.isAgg:=by
  simp only [putCell] at h
  cases p<;>simp only [helems,Option.bind_none,Option.bind_some] at h<;>try cases h
  case own sz xs =>
    cases hx:xs[i]?<;>rw [hx] at h<;>simp [withElems] at h
    subst h;rfl
  case box q =>
    cases i with
    | zero=>simp [withElems] at h;subst h;rfl
    | succ i=>simp at h
  case agg cs =>
    cases i with
    | zero=>simp [withElems,setCells] at h;subst h;rfl
    | succ i=>simp at h
def alike:PV→PV→Prop
  | .own sz _,.own sz' _=>sz=sz'
  | .box _,.box _=>True
  | .omap _,.omap _=>True
  | _,_=>False
theorem alike.refl {p:PV} (h:p.heavy0=true):alike p p:=by
  cases p<;>simp_all [PV.heavy0,alike]
theorem cells_set {x q q':PV} {c:Nat} (hq:x.cells[c]? = some q) (hg:q'.isAgg=q.isAgg):(setCells x c [q']).cells=x.cells.set c q':=by
  cases hx:x.isAgg with
  | true =>
    cases x<;>simp [PV.isAgg] at hx
    rename_i cs
    have hc:c<cs.length:=(List.getElem?_eq_some_iff.1 hq).1
    show cs.take c++[q']++cs.drop (c+1)=cs.set c q'
    rw [List.set_eq_take_append_cons_drop,if_pos hc];simp
  | false =>
    have hcs:x.cells=[x]:=by cases x<;>first | rfl | simp [PV.isAgg] at hx
    rw [hcs] at hq ⊢
    have hc:c=0:=by have:=(List.getElem?_eq_some_iff.1 hq).1;simp at this;exact this
    subst hc;simp at hq;subst hq
    have he:setCells x 0 [q']=q':=by cases x<;>first | rfl | simp [PV.isAgg] at hx
    rw [he]
    rw [hx] at hg
    cases q'<;>first | rfl | simp [PV.isAgg] at hg
theorem child_put {p q q' p':PV} {i c:Nat} (hc:Eng.child p i c=some q) (hg:q'.isAgg=q.isAgg) (hp:putCell p i c q'=some p') :
    Eng.child p' i c=some q'∧∀ i2 c2,(i2,c2)≠(i,c)→Eng.child p' i2 c2=Eng.child p i2 c2:=by
  simp only [Eng.child] at hc
  simp only [putCell] at hp
  cases hh:helems p with
  | none=>rw [hh] at hc;cases hc
  | some xs =>
    rw [hh] at hc hp;simp only [Option.bind_some] at hc hp
    cases hx:xs[i]? with
    | none=>rw [hx] at hc;cases hc
    | some x =>
      rw [hx] at hc hp;simp only [Option.bind_some] at hc hp
      have hset:=cells_set hc hg
      have hi:i<xs.length:=(List.getElem?_eq_some_iff.1 hx).1
      have hcl:c<x.cells.length:=(List.getElem?_eq_some_iff.1 hc).1
      have hhe:helems p'=some (xs.set i (setCells x c [q'])):=by
        cases p<;>simp only [helems] at hh<;>try cases hh
        case agg cs =>
          have hi0:i=0:=by simpa using hi
          subst hi0
          simp only [List.getElem?_cons_zero,Option.some.injEq] at hx;subst hx
          simp only [setCells,List.set_cons_zero,withElems,Option.some.injEq] at hp ⊢
          subst hp;rfl
        case own sz =>
          simp only [withElems,Option.some.injEq] at hp
          subst hp;rfl
        case box q0 =>
          have hi0:i=0:=by simpa using hi
          subst hi0
          simp only [List.set_cons_zero,withElems,Option.some.injEq] at hp ⊢
          subst hp;rfl
      refine ⟨?_,fun i2 c2 hne=>?_⟩
      · simp only [Eng.child,hhe,Option.bind_some,List.getElem?_set_self hi,hset,List.getElem?_set_self hcl]
      · simp only [Eng.child,hhe,hh,Option.bind_some]
        by_cases hii:i2=i
        · subst hii
          rw [List.getElem?_set_self hi,hx];simp only [Option.bind_some,hset]
          rw [List.getElem?_set_ne (by intro e;exact hne (by rw [e]))]
        · rw [List.getElem?_set_ne (by omega)]
section
variable {w w':World} {Φ Φ':Nat→Prop}
theorem follow_same {A:Al}:∀ {pre:Path} {p:PV} {v:Value} {L:List Nat},Rep w Φ A p v L→(∀ b∈L,w'.heap[b]? = w.heap[b]?)→follow w' v p pre=follow w v p pre
  | [],_,_,_,_,_=>rfl
  | (i, c)::rest,p,v,L,h,hb=>by
    rw [follow_cons,follow_cons]
    cases hc:Eng.child p i c with
    | none=>rfl
    | some q =>
      simp only [Option.bind_some]
      obtain ⟨u,La,Li,Lb,hk,rfl,hr,_⟩:=h.child hc
      have hk':kid w' v p i c=kid w v p i c:=by
        cases p<;>first | (simp [Eng.child,helems] at hc;done) | skip
        · obtain ⟨vs,rfl,_⟩:=h;rfl
        · obtain ⟨h1,h2,h3⟩ | ⟨a,n,r,us,L',h0,h1,h2,_⟩:=h
          · subst h1;simp [Eng.child,helems] at hc
          · subst h1;simp only [kid]
            exact World.cell?_of_block (w:=w) (hb _ (by rw [h0];simp [cellOf]))
        · obtain ⟨a,r,u0,L',h0,h1,_⟩:=h
          subst h1;simp only [kid]
          exact World.cell?_of_block (w:=w) (hb _ (by rw [h0];simp [cellOf]))
      rw [hk',hk];simp only [Option.bind_some]
      exact follow_same hr fun b h=>hb b (by simp [h])
theorem putCell_alike {p p' q':PV} {i c:Nat} (hp:putCell p i c q'=some p') (hh:p'.heavy0=true):alike p p':=by
  simp only [putCell] at hp
  cases p<;>simp only [helems,Option.bind_none,Option.bind_some] at hp<;>try cases hp
  case own sz xs =>
    cases hx:xs[i]?<;>rw [hx] at hp<;>simp [withElems] at hp
    subst hp;rfl
  case box q =>
    cases i with
    | zero=>simp [withElems] at hp;subst hp;trivial
    | succ i=>simp at hp
  case agg cs =>
    cases i with
    | zero=>simp [withElems,setCells] at hp;subst hp;cases hh
    | succ i=>simp at hp
theorem Rep.zip : ∀ (pre:Path) {A:Al} {p:PV} {v:Value} {L:List Nat} {q:PV},Rep w Φ A p v L→getNode p pre=some q →
    ∃ nv La Li Lb,follow w v p pre=some (nv,q)∧L=La++Li++Lb∧Rep w Φ (alOn A p pre) q nv Li ∧
      (∀ w' Φ' (A':Al) q' Li' p',(∀ a v,a.isWay=true→A a v→A' a v)→Same w w' Φ Φ'→(∀ b∈La++Lb,w'.heap[b]? = w.heap[b]?)→(pre≠[]→q'.isAgg=q.isAgg)→Rep w' Φ' (alOn A' p pre) q' nv Li' →
        modNode (fun _=>some q') p pre=some p'→Rep w' Φ' A' p' v (La++Li'++Lb)) ∧
      ∀ w' q' p',(∀ b∈La++Lb,w'.heap[b]? = w.heap[b]?)→(pre≠[]→q'.isAgg=q.isAgg)→modNode (fun _=>some q') p pre=some p' →
        ∀ pth nv2 np2,follow w' v p' pth=some (nv2,np2)→np2.heavy0=true →
          (∃ rest,pth=pre++rest∧follow w' nv q' rest=some (nv2,np2))∨∃ np0,follow w v p pth=some (nv2,np0)∧alike np0 np2
  | [],A,p,v,L,q,h,hq=>by
    simp only [getNode] at hq;cases hq
    refine ⟨v,[],L,[],rfl,by simp,h,fun w' Φ' A' q' Li' p' hA hs hb _ hr hp=>?_,fun w' q' p' hb _ hp pth nv2 np2 hf hh=>?_⟩
    · simp only [modNode] at hp;cases hp
      simpa [alOn] using hr
    · simp only [modNode] at hp;cases hp
      exact .inl ⟨pth,rfl,hf⟩
  | (i, c) :: rest,A,p,v,L,q,h,hq=>by
    rw [getNode_cons] at hq
    cases hc:Eng.child p i c with
    | none=>rw [hc] at hq;cases hq
    | some q1 =>
      rw [hc] at hq;simp only [Option.bind_some] at hq
      obtain ⟨u,La,Li,Lb,hu,rfl,hr,hk,hkid,hoth⟩:=h.child hc
      obtain ⟨nv,Ma,Mi,Mb,hf,rfl,hr2,hk2,hfol⟩:=Rep.zip rest hr hq
      have hagg:∀ q' q1',modNode (fun _=>some q') q1 rest=some q1'→q'.isAgg=q.isAgg→q1'.isAgg=q1.isAgg:=by
        intro q' q1' hm hq'
        cases rest with
        | nil =>
          simp only [modNode] at hm;cases hm
          simp only [getNode] at hq;cases hq
          exact hq'
        | cons x rest =>
          obtain ⟨i2,c2⟩:=x
          rw [modNode_cons] at hm
          cases hc2:Eng.child q1 i2 c2 with
          | none=>rw [hc2] at hm;cases hm
          | some q2 =>
            rw [hc2] at hm;simp only [Option.bind_some] at hm
            cases hm2:modNode (fun _=>some q') q2 rest with
            | none=>rw [hm2] at hm;cases hm
            | some q2'=>rw [hm2] at hm;exact putCell_isAgg (by simpa using hm)
      refine ⟨nv,La++Ma,Mi,Mb++Lb,?_,by simp,?_,fun w' Φ' A' q' Li' p' hA hs hb hq' hr' hp=>?_,fun w' q' p' hb hq' hp pth nv2 np2 hf2 hh=>?_⟩
      rotate_left 3
      · rw [modNode_cons,hc] at hp;simp only [Option.bind_some] at hp
        cases hm:modNode (fun _=>some q') q1 rest with
        | none=>rw [hm] at hp;cases hp
        | some q1' =>
          rw [hm] at hp;simp only [Option.bind_some] at hp
          have hb1:∀ b∈La++Lb,w'.heap[b]? = w.heap[b]?:=fun b h=>hb b (by simp at h ⊢;rcases h with h | h<;>simp [h])
          have hb2:∀ b∈Ma++Mb,w'.heap[b]? = w.heap[b]?:=fun b h=>hb b (by simp at h ⊢;rcases h with h | h<;>simp [h])
          have hg:q1'.isAgg=q1.isAgg:=hagg q' q1' hm (hq' (by simp))
          obtain ⟨hch,hoc⟩:=child_put hc hg hp
          cases pth with
          | nil =>
            simp only [follow,Option.some.injEq,Prod.mk.injEq] at hf2
            obtain ⟨rfl,rfl⟩:=hf2
            exact .inr ⟨p,rfl,putCell_alike hp hh⟩
          | cons x pth =>
            obtain ⟨i2,c2⟩:=x
            rw [follow_cons] at hf2
            by_cases hsame:(i2,c2)=(i,c)
            · cases hsame
              rw [hch] at hf2;simp only [Option.bind_some] at hf2
              rw [hkid w' hb1 q1' p' hp,hu] at hf2;simp only [Option.bind_some] at hf2
              rcases hfol w' q' q1' hb2 (fun _=>hq' (by simp)) hm pth nv2 np2 hf2 hh with ⟨rst,rfl,h3⟩ | ⟨np0,h3,h4⟩
              · exact .inl ⟨rst,rfl,h3⟩
              · refine .inr ⟨np0,?_,h4⟩
                rw [follow_cons,hc];simp only [Option.bind_some];rw [hu];exact h3
            · rw [hoc i2 c2 hsame] at hf2
              cases hc2:Eng.child p i2 c2 with
              | none=>rw [hc2] at hf2;cases hf2
              | some q2 =>
                rw [hc2] at hf2;simp only [Option.bind_some] at hf2
                obtain ⟨u2,L2,h3,h4,h5⟩:=hoth i2 c2 q2 hsame hc2
                rw [hkid w' hb1 q1' p' hp,h3] at hf2;simp only [Option.bind_some] at hf2
                rw [follow_same h4 fun b hb'=>hb1 b (h5 b hb')] at hf2
                refine .inr ⟨np2,?_,alike.refl hh⟩
                rw [follow_cons,hc2];simp only [Option.bind_some];rw [h3];exact hf2
      · rw [follow_cons,hc];simp only [Option.bind_some];rw [hu];simpa using hf
      · simpa only [alOn,hc] using hr2
      · rw [modNode_cons,hc] at hp;simp only [Option.bind_some] at hp
        cases hm:modNode (fun _=>some q') q1 rest with
        | none=>rw [hm] at hp;cases hp
        | some q1' =>
          rw [hm] at hp;simp only [Option.bind_some] at hp
          simp only [alOn,hc] at hr'
          have h2:=hk2 w' Φ' (below A' p) q' Li' q1' (below_mono hA) hs (fun b h=>hb b (by simp at h ⊢;rcases h with h | h<;>simp [h])) (fun _=>hq' (by simp)) hr' hm
          have hg:q1'.isAgg=q1.isAgg:=hagg q' q1' hm (hq' (by simp))
          have:=hk w' Φ' A' q1' _ p' hA hs (fun b h=>hb b (by simp at h ⊢;rcases h with h | h<;>simp [h])) hg h2 hp
          simpa using this
end
section
variable {w:World} {Φ:Nat→Prop} {rv:Nat→Value} {E:Nat→PV}
theorem view0_rep {r:Nat} {pre:Path} {p:PV} {v:Value} {L:List Nat} (hr:r<ghost) (hf:follow w (rv r) (E r).unlock pre=some (v,p))
    (h:Rep w Φ (AlOf w rv E) p v L):Rep w Φ (AlOf w rv E) (view0 r pre p) v []:=by
  cases p with
  | own sz xs =>
    refine ⟨rfl,hr,?_,?_⟩
    · obtain ⟨h1,h2,h3⟩ | ⟨a,n,c,us,L',h0,h1,h2,h3,h4⟩:=h
      · subst h1;exact ⟨none,0,h3,by simp,by simp,by simp⟩
      · exact ⟨some a,n,h1,h3,by simp,fun b hb=>by cases hb;exact h2⟩
    · intro nv np hn _
      rw [hf] at hn;cases hn
      refine ⟨sz,xs,rfl,rfl,?_⟩
      obtain ⟨h1,h2,h3⟩ | ⟨a,n,c,us,L',h0,h1,h2,h3,h4⟩:=h
      · subst h1;subst h3;exact ⟨rfl,rfl⟩
      · subst h1
        have:cellOf a (0*sz)=a:=by cases a;simp_all [cellOf]
        exact ⟨by rw [this];rfl,by simpa using h3⟩
  | box q =>
    obtain ⟨a,c,u,L',h0,h1,h2,h4⟩:=h
    refine ⟨rfl,hr,a,h1,h2,?_⟩
    intro nv np hn a' ha
    rw [hf] at hn;cases hn;subst h1
    have:cellOf a 0=a:=by cases a;simp_all [cellOf]
    simp only [addrIn,this] at ha;cases ha;rfl
  | omap es =>
    obtain ⟨b,ents,h0,h1,h4⟩:=h
    refine ⟨rfl,hr,⟨b,h1⟩,?_⟩
    intro nv np hn es' he
    rw [hf] at hn;cases hn;rfl
  | agg cs=>rfl
  | tup cs=>rfl
  | lock q=>rfl
  | _=>simp_all [view0,Rep]
end
end Go.Eng
namespace Go.Eng
open Go
theorem alike_heavy0 {p q:PV} (h:alike p q):p.heavy0=true:=by cases p<;>cases q<;>first | rfl | cases h
def rootOf:PV→Nat×Path
  | .addr r pre .. => (r,pre)
  | .bor r pre .. => (r,pre)
  | .bsl r pre .. => (r,pre)
  | .bmap r pre=>(r,pre)
  | _=>(0,[])
theorem addrIn_alike {nv:Value} {p q:PV} {i c:Nat} (h:alike p q):addrIn nv p i c=addrIn nv q i c:=by
  cases p<;>cases q<;>simp only [alike] at h
  · subst h;cases nv with
    | slice a _ _=>cases a<;>rfl
    | pointer a=>cases a<;>rfl
    | _=>rfl
  · cases nv with
    | pointer a=>cases a<;>cases i<;>rfl
    | slice a _ _=>cases a<;>rfl
    | _=>rfl
  · cases nv with
    | pointer a=>cases a<;>cases i<;>rfl
    | slice a _ _=>cases a<;>rfl
    | _=>rfl
section
variable {w w':World} {Φ Φ':Nat→Prop} {rv rv':Nat→Value} {E E':Nat→PV}
theorem AlOf.mono {a:PV} {v:Value} (h:AlOf w rv E a v)
    (hf:∀ nv np,follow w' (rv' (rootOf a).1) (E' (rootOf a).1).unlock (rootOf a).2=some (nv,np)→np.heavy0=true →
      ∃ np0,follow w (rv (rootOf a).1) (E (rootOf a).1).unlock (rootOf a).2=some (nv,np0)∧alike np0 np):AlOf w' rv' E' a v:=by
  have key:∀ nv np i c a',addrIn nv np i c=some a'→np.heavy0=true:=by
    intro nv np i c a' h
    cases np<;>first | rfl | (simp [addrIn] at h)
  have key2:∀ nv np np0 i c a',addrIn nv np i c=some a'→alike np0 np→addrIn nv np0 i c=some a':=by
    intro nv np np0 i c a' h hl;rw [addrIn_alike hl];exact h
  cases a<;>simp only [AlOf] at h ⊢
  case addr r pre i c sh =>
    obtain ⟨hr,a,h1,h2,h3⟩:=h
    refine ⟨hr,a,h1,h2,fun nv np hn a' ha=>?_⟩
    obtain ⟨np0,hn0,hl⟩:=hf nv np hn (key _ _ _ _ _ ha)
    exact h3 nv np0 hn0 a' (key2 _ _ _ _ _ _ ha hl)
  case bor r pre z lo n =>
    obtain ⟨hr,h1,h3⟩:=h
    refine ⟨hr,h1,fun nv np hn hh=>?_⟩
    obtain ⟨np0,hn0,hl⟩:=hf nv _ hn hh
    obtain ⟨sz,xs,he,hz,hsl⟩:=h3 nv np0 hn0 (alike_heavy0 hl)
    subst he
    cases np<;>simp only [alike] at hl
    subst hl
    exact ⟨_,_,rfl,hz,hsl⟩
  case bsl r pre i c sz ag n =>
    obtain ⟨hr,a,cap,h1,h2,h2',h3⟩:=h
    refine ⟨hr,a,cap,h1,h2,h2',fun nv np hn a' ha=>?_⟩
    obtain ⟨np0,hn0,hl⟩:=hf nv np hn (key _ _ _ _ _ ha)
    exact h3 nv np0 hn0 a' (key2 _ _ _ _ _ _ ha hl)
  case bmap r pre =>
    obtain ⟨hr,h1,h3⟩:=h
    refine ⟨hr,h1,fun nv np hn es he=>?_⟩
    subst he
    obtain ⟨np0,hn0,hl⟩:=hf nv _ hn rfl
    cases np0<;>simp only [alike] at hl
    exact h3 nv _ hn0 _ rfl
theorem heavys_false:∀ {ps:List PV} {i:Nat} {p:PV},heavys ps=false→ps[i]? = some p→p.heavy=false
  | [],_,_,_,h=>by simp at h
  | q::ps,0,p,hh,h=>by
    simp at h;subst h
    simp only [heavys,Bool.or_eq_false_iff] at hh;exact hh.1
  | q::ps,i+1,p,hh,h=>by
    simp only [heavys,Bool.or_eq_false_iff] at hh
    exact heavys_false hh.2 (by simpa using h)
theorem follow_light:∀ {pre:Path} {p:PV} {v nv:Value} {np:PV},p.heavy=false→follow w v p pre=some (nv,np)→np.heavy=false
  | [],p,v,nv,np,hp,h=>by simp only [follow] at h;cases h;exact hp
  | (i, c)::rest,p,v,nv,np,hp,h=>by
    rw [follow_cons] at h
    cases hc:Eng.child p i c with
    | none=>rw [hc] at h;cases h
    | some q =>
      rw [hc] at h;simp only [Option.bind_some] at h
      cases hk:kid w v p i c with
      | none=>rw [hk] at h;cases h
      | some u =>
        rw [hk] at h;simp only [Option.bind_some] at h
        refine follow_light ?_ h
        cases p<;>first | (simp [Eng.child,helems] at hc;done) | (simp [PV.heavy] at hp;done) | skip
        rename_i cs
        cases i with
        | zero=>simp [Eng.child,helems,PV.cells] at hc;exact heavys_false hp hc
        | succ i=>simp [Eng.child,helems] at hc
theorem heavy0_heavy {p:PV} (h:p.heavy0=true):p.heavy=true:=by
  cases p<;>simp_all [PV.heavy0,PV.heavy]
structure Conf (w0:World) (U Φ0:Nat→Prop) (w:World) (Φ:Nat→Prop) (rv:Nat→Value) (E:Nat→PV) (L:Nat→List Nat):Prop where
  rep:∀ s,Rep w Φ (AlOf w rv E) (E s) (rv s) (L s)
  nodup:∀ s,(L s).Nodup
  disj:∀ s s',s≠s'→∀ b∈L s,b∉L s'
  own:∀ s,∀ b∈L s,b<w.heap.size∧¬ Φ b∧(U b∨w0.heap.size≤b)
  frz:∀ b,Φ b→b<w.heap.size∧(Φ0 b∨U b∨w0.heap.size≤b)
  frz0:∀ b,Φ0 b→Φ b
  size:w0.heap.size≤w.heap.size
  kept:∀ b,b<w0.heap.size→¬ U b→w.heap[b]? = w0.heap[b]?
  os:w.os=w0.os
  tape:w.tape=w0.tape
  output:w.output=w0.output
def upd {α:Type} (f:Nat→α) (s:Nat) (x:α):Nat→α:=fun t=>if t=s then x else f t
theorem upd_at {α:Type} {f:Nat→α} {s:Nat} {x:α}:upd f s x s=x:=if_pos rfl
theorem upd_ne {α:Type} {f:Nat→α} {s t:Nat} {x:α} (h:t≠s):upd f s x t=f t:=if_neg h
theorem rep_unlock {A:Al} {p:PV} {v:Value} {L:List Nat} (h:Rep w Φ A p v L):Rep w Φ A p.unlock v L:=by cases p<;>exact h
theorem follow_append:∀ (a b:Path) (v:Value) (p:PV),follow w v p (a++b)=(follow w v p a).bind fun x=>follow w x.1 x.2 b
  | [],b,v,p=>rfl
  | (i,c)::a,b,v,p=>by
    rw [List.cons_append,follow_cons,follow_cons]
    cases Eng.child p i c with
    | none=>rfl
    | some q =>
      simp only [Option.bind_some]
      cases kid w v p i c with
      | none=>rfl
      | some u=>simp only [Option.bind_some];exact follow_append a b u q
theorem follow_one {v:Value} {p:PV} {i c:Nat}:follow w v p [(i,c)]=(Eng.child p i c).bind fun q=>(kid w v p i c).bind fun u=>some (u,q):=by
  rw [follow_cons];rfl
theorem Reps.part {A:Al}:∀ {ps:List PV} {us:List Value} {L:List Nat},Reps w Φ A ps us L→∀ c n,∃ L',Reps w Φ A ((ps.drop c).take n) ((us.drop c).take n) L'
  | [],us,L,h,c,n=>by rw [h.1];exact ⟨[],by simp [Reps]⟩
  | p::ps,us,L,h,0,0=>⟨[],by simp [Reps]⟩
  | p::ps,us,L,h,0,n+1=>by
    obtain ⟨v,vs,L1,L2,rfl,rfl,h1,h2⟩:=h
    obtain ⟨L',h'⟩:=h2.part 0 n
    exact ⟨L1++L',v,_,L1,L',rfl,rfl,h1,by simpa using h'⟩
  | p::ps,us,L,h,c+1,n=>by
    obtain ⟨v,vs,L1,L2,rfl,rfl,h1,h2⟩:=h
    simpa using h2.part c n
theorem helems_hcells {p:PV} {xs:List PV} (h:hcells p=some xs):helems p=some xs:=by cases p<;>first | exact h | cases h
theorem add_cell {a:Addr} (h:a.spot=none) (j:Nat):a.add j=cellOf a j:=by
  obtain ⟨b,o,sp⟩:=a
  simp only at h;subst h
  simp only [Addr.add,cellOf]
  split
  · rename_i hj;subst hj;rfl
  · rfl
theorem cellOf_add (a:Addr) (k j:Nat):(cellOf a k).add j=cellOf a (k+j):=by
  rw [add_cell rfl];simp [cellOf,Nat.add_assoc]
theorem kid_cell {nv:Value} {np:PV} {xs:List PV} {i c j:Nat} {ad:Addr} (h:hcells np=some xs) (ha:addrIn nv np i c=some ad):kid w nv np i (c+j)=w.cell? (ad.add j):=by
  cases np<;>simp only [hcells] at h<;>try cases h
  · cases nv with
    | slice a _ _ =>
      cases a with
      | none=>cases ha
      | some a=>simp only [addrIn] at ha;cases ha;rw [cellOf_add];simp [kid,Nat.add_assoc]
    | pointer a=>cases a<;>cases ha
    | _=>cases ha
  · cases nv with
    | pointer a =>
      cases a with
      | none=>cases i<;>cases ha
      | some a=>cases i<;>simp only [addrIn] at ha<;>cases ha;rw [cellOf_add];simp [kid,Nat.add_assoc]
    | slice a _ _=>cases a<;>cases ha
    | _=>cases ha
theorem below_le {A:Al} {p:PV} {a:PV} {v:Value} (h:below A p a v):A a v:=by
  cases p<;>first | exact h | exact h.elim
theorem alOn_le:∀ {pre:Path} {A:Al} {p:PV} {a:PV} {v:Value},alOn A p pre a v→A a v
  | [],_,_,_,_,h=>h
  | (i,c)::rest,A,p,a,v,h=>by
    simp only [alOn] at h
    cases hc:Eng.child p i c with
    | none=>rw [hc] at h;exact h.elim
    | some q=>rw [hc] at h;exact below_le (alOn_le h)
theorem Rep.cellsAll {A:Al} {p:PV} {v:Value} {L:List Nat} (h:Rep w Φ A p v L) (hn:vAgg v=p.isAgg):Reps w Φ A p.cells v.cells.toList L:=by
  cases hp:p.isAgg with
  | true =>
    cases p<;>simp [PV.isAgg] at hp
    obtain ⟨vs,rfl,h⟩:=h
    exact h
  | false =>
    have hcs:p.cells=[p]:=by cases p<;>first | rfl | simp [PV.isAgg] at hp
    have hv:v.cells=#[v]:=by rw [hp] at hn;cases v<;>first | rfl | simp [vAgg] at hn
    rw [hcs,hv]
    exact ⟨v,[],L,[],rfl,by simp,h,rfl,rfl⟩
theorem node_elem {A:Al} {np:PV} {nv:Value} {Li:List Nat} (h:Rep w Φ A np nv Li) {xs:List PV} (hx:hcells np=some xs) {i:Nat} {x:PV} (hi:xs[i]? = some x) (c:Nat) :
    ∃ ux ad Lx,(∀ b∈Lx,b∈Li)∧addrIn nv np i c=some ad∧ad.spot=none∧(∀ k u,ux.cells.toList[k]? = some u→∀ j,k=c+j→w.cell? (ad.add j)=some u)∧vAgg ux=x.isAgg∧ux.cells.size=x.cells.length∧Reps w Φ (below A np) x.cells ux.cells.toList Lx:=by
  cases np<;>simp only [hcells] at hx<;>try cases hx
  case own sz =>
    obtain ⟨h1,h2,h3⟩ | ⟨a,n,r,us,L',rfl,h1,h2,h3,h4,h5,h6,⟨h7,h7'⟩,h8,h9⟩:=h
    · subst h1;simp at hi
    · obtain ⟨ux,La,Lx,Lb,hu,rfl,hr,_,_⟩:=h9.split hi
      have hg:vAgg ux=x.isAgg:=by
        have h1:(us.map vAgg)[i]? = some (vAgg ux):=by simp [hu]
        have h2:(xs.map PV.isAgg)[i]? = some x.isAgg:=by simp [hi]
        rw [h7'] at h1;rw [h1] at h2;simpa using h2
      subst h1
      refine ⟨ux,cellOf a (i*sz+c),Lx,fun b hb=>by simp [hb],rfl,rfl,?_,hg,?_,hr.cellsAll hg⟩
      · intro k u hk j hkj
        have hf:=flat_get h7 hu hk
        rw [← h8] at hf
        have:=seg_get hf
        rw [cellOf_add,show i*sz+c+j=i*sz+k by omega]
        simp only [cellOf];rw [cell_row h4.any];exact this
      · rw [h7 ux (List.mem_of_getElem? hu),h6 x (List.mem_of_getElem? hi)]
  case box q0 =>
    obtain ⟨a,r,u0,L',rfl,h1,h2,h4,h5,⟨h6,h6'⟩,h7⟩:=h
    have hi0:i=0:=by
      cases i with
      | zero=>rfl
      | succ i=>simp at hi
    subst hi0;simp at hi;subst hi
    subst h1
    refine ⟨u0,cellOf a c,L',fun b hb=>by simp [hb],rfl,rfl,?_,h6',h6,h7.cellsAll h6'⟩
    intro k u hk j hkj
    have:=seg_get (c:=r) (o:=a.off) (n:=q0.cells.length) (k:=k) (u:=u) (by rw [h5];exact hk)
    rw [cellOf_add,← hkj]
    simp only [cellOf];rw [cell_row h4.any];exact this
theorem viewCells_rep {r i:Nat} {pre:Path} (hr:r<ghost):∀ {ps:List PV} {us:List Value} {L:List Nat} {c:Nat},Reps w Φ (AlOf w rv E) ps us L →
    (∀ j p u,ps[j]? = some p→us[j]? = some u→follow w (rv r) (E r).unlock (pre++[(i,c+j)])=some (u,p))→Reps w Φ (AlOf w rv E) (viewCells r pre i c ps) us []
  | [],us,L,c,h,_=>⟨h.1,rfl⟩
  | p::ps,us,L,c,h,hf=>by
    obtain ⟨v,vs,L1,L2,rfl,rfl,h1,h2⟩:=h
    refine ⟨v,vs,[],[],rfl,rfl,view0_rep hr (hf 0 p v rfl rfl) h1,viewCells_rep hr h2 fun j q u hq hu=>?_⟩
    have:=hf (j+1) q u (by simpa using hq) (by simpa using hu)
    rwa [show c+1+j=c+(j+1) by omega]
section
variable {w0:World} {U Φ0:Nat→Prop} {L:Nat→List Nat}
theorem Conf.view (h:Conf w0 U Φ0 w Φ rv E L) {s:Nat} (hs:s<ghost):Rep w Φ (AlOf w rv E) (view s (E s)) (rv s) []:=by
  have hr:=rep_unlock (h.rep s)
  have hv:Eng.view s (E s)=viewU s (E s).unlock:=by cases E s<;>rfl
  rw [hv]
  have hf:follow w (rv s) (E s).unlock []=some (rv s,(E s).unlock):=rfl
  have key:∀ p,(E s).unlock=p→Rep w Φ (AlOf w rv E) (viewU s p) (rv s) []:=by
    intro p hp
    rw [hp] at hr hf
    cases p with
    | agg cs =>
      obtain ⟨vs,hv,hr⟩:=hr
      refine ⟨vs,hv,viewCells_rep hs hr fun j p u hj hu=>?_⟩
      rw [follow_append,hp,hf,hv]
      show (follow w (.agg vs) (.agg cs) [(0,0+j)])=_
      rw [follow_one]
      have hu:vs[j]? = some u:=by simpa using hu
      simp [Eng.child,helems,PV.cells,kid,hj,hu]
    | tup cs=>rfl
    | _=>exact view0_rep (pre:=[]) hs (by rw [hp];exact hf) hr
  exact key _ rfl
theorem Conf.cells (h:Conf w0 U Φ0 w Φ rv E L) {r:Nat} {pre:Path} {i c n:Nat} {a:Bool} {qs:List PV} (hr:r<ghost) (hc:readCells r (E r) pre i c n=some (a,qs)) :
    ∃ nv np ad us,follow w (rv r) (E r).unlock pre=some (nv,np)∧addrIn nv np i c=some ad∧ad.spot=none∧us.length=n∧(∀ j u,us[j]? = some u→w.cell? (ad.add j)=some u)∧Reps w Φ (AlOf w rv E) qs us []:=by
  simp only [readCells] at hc
  cases hn:getNode (E r).unlock pre with
  | none=>rw [hn] at hc;cases hc
  | some np =>
    rw [hn] at hc;simp only at hc
    obtain ⟨nv,La,Li,Lb,hf,hL,hrep,_,_⟩:=Rep.zip pre (rep_unlock (h.rep r)) hn
    cases hx:hcells np with
    | none=>rw [hx] at hc;cases hc
    | some xs =>
      rw [hx] at hc;simp only at hc
      cases hxi:xs[i]? with
      | none=>rw [hxi] at hc;cases hc
      | some x =>
        rw [hxi] at hc;simp only at hc
        by_cases hle:c+n≤x.cells.length
        · rw [Nat.ble_eq_true_of_le hle] at hc
          simp only [cond_true,Option.some.injEq,Prod.mk.injEq] at hc
          obtain ⟨rfl,rfl⟩:=hc
          obtain ⟨ux,ad,Lx,hA,had,hsp,hcell,hvx,hsz,hreps⟩:=node_elem hrep hx hxi c
          have hlen:ux.cells.toList.length=x.cells.length:=(hreps.length)
          refine ⟨nv,np,ad,(ux.cells.toList.drop c).take n,hf,had,hsp,by simp at hlen ⊢;omega,?_,?_⟩
          · intro j u hj
            simp only [List.getElem?_take,List.getElem?_drop] at hj
            split at hj
            · exact hcell (c+j) u hj j rfl
            · cases hj
          · obtain ⟨L',hsub⟩:=hreps.part c n
            refine viewCells_rep hr (hsub.mono (A':=AlOf w rv E) Same.refl (fun a v hw ha=>alOn_le (below_le ha)) (fun _ _=>rfl)) fun j p u hp hu=>?_
            simp only [List.getElem?_take,List.getElem?_drop] at hp hu
            split at hp
            · rename_i hjn
              rw [if_pos hjn] at hu
              rw [follow_append,hf];simp only [Option.bind_some];rw [follow_one]
              have hch:Eng.child np i (c+j)=some p:=by
                simp only [Eng.child]
                rw [helems_hcells hx];simp [hxi,hp]
              rw [hch];simp only [Option.bind_some]
              rw [kid_cell hx had (j:=j),hcell (c+j) u hu j rfl];rfl
            · cases hp
        · have:Nat.ble (c+n) x.cells.length=false:=by
            cases hb:Nat.ble (c+n) x.cells.length with
            | false=>rfl
            | true=>exact absurd (Nat.le_of_ble_eq_true hb) hle
          rw [this] at hc;simp at hc
theorem Conf.put (h:Conf w0 U Φ0 w Φ rv E L) {s:Nat} {p:PV} {v:Value} (hp:p.heavy=false) (hr:Rep w Φ (AlOf w rv E) p v []) :
    Conf w0 U Φ0 w Φ (upd rv s v) (upd E s p) (upd L s []):=by
  have hA:∀ a u,a.isWay=true→AlOf w rv E a u→AlOf w (upd rv s v) (upd E s p) a u:=by
    intro a u _ ha
    refine ha.mono fun nv np hn hh=>?_
    by_cases hs:(rootOf a).1=s
    · rw [hs,upd_at,upd_at] at hn
      have hu:p.unlock=p:=by cases p<;>first | rfl | simp [PV.heavy] at hp
      rw [hu] at hn
      have:=follow_light hp hn
      rw [heavy0_heavy hh] at this;cases this
    · rw [upd_ne hs,upd_ne hs] at hn
      exact ⟨np,hn,alike.refl hh⟩
  refine {h with rep:=?_,nodup:=?_,disj:=?_,own:=?_}
  · intro t
    by_cases ht:t=s
    · subst ht;rw [upd_at,upd_at,upd_at];exact hr.mono Same.refl hA (by simp)
    · rw [upd_ne ht,upd_ne ht,upd_ne ht];exact (h.rep t).mono Same.refl hA (fun _ _=>rfl)
  · intro t
    by_cases ht:t=s
    · subst ht;rw [upd_at];simp
    · rw [upd_ne ht];exact h.nodup t
  · intro t t' hne b hb
    by_cases ht:t=s
    · subst ht;rw [upd_at] at hb;simp at hb
    · rw [upd_ne ht] at hb
      by_cases ht':t'=s
      · subst ht';rw [upd_at];simp
      · rw [upd_ne ht'];exact h.disj t t' hne b hb
  · intro t b hb
    by_cases ht:t=s
    · subst ht;rw [upd_at] at hb;simp at hb
    · rw [upd_ne ht] at hb;exact h.own t b hb
end
end
def PV.dull:PV→Bool
  | .own .. | .box .. | .omap .. | .agg _ | .lock _=>false
  | _=>true
structure Tame (f:PV→PV):Prop where
  agg:∀ p,(f p).isAgg=p.isAgg
  dull:∀ p,p.isWay=true→(f p).dull=true
theorem dull_helems {p:PV} (h:p.dull=true):helems p=none:=by cases p<;>first | rfl | cases h
theorem dull_heavy0 {p:PV} (h:p.dull=true):p.heavy0=false:=by cases p<;>first | rfl | cases h
theorem dull_unlock {p:PV} (h:p.dull=true):p.unlock=p:=by cases p<;>first | rfl | cases h
theorem mapWs_get {f:PV→PV}:∀ (ps:List PV) (i:Nat),(mapWs f ps)[i]? = (ps[i]?).map fun p=>p.mapW f
  | [],i=>by simp [mapWs]
  | p::ps,0=>by simp [mapWs]
  | p::ps,i+1=>by simp only [mapWs,List.getElem?_cons_succ];exact mapWs_get ps i
theorem mapW_cells {f:PV→PV} (hf:Tame f) (q:PV) (c:Nat):(q.mapW f).cells[c]? = (q.cells[c]?).map fun p=>p.mapW f:=by
  cases hq:q.isAgg with
  | true =>
    cases q<;>simp [PV.isAgg] at hq
    simp only [PV.mapW,PV.cells];exact mapWs_get _ _
  | false =>
    have h1:q.cells=[q]:=by cases q<;>first | rfl | simp [PV.isAgg] at hq
    have h2:(q.mapW f).isAgg=false:=by rw [isAgg_mapW hf.agg];exact hq
    have h3:(q.mapW f).cells=[q.mapW f]:=by revert h2;cases q.mapW f<;>intro h2<;>first | rfl | simp [PV.isAgg] at h2
    rw [h1,h3];cases c<;>simp
theorem way_mapW {f:PV→PV} {p:PV} (h:p.isWay=true):p.mapW f=f p:=by cases p<;>first | rfl | cases h
theorem unlock_mapW {f:PV→PV} (hf:Tame f) (p:PV):(p.mapW f).unlock=p.unlock.mapW f:=by
  cases hp:p.isWay with
  | true =>
    have h1:p.unlock=p:=by cases p<;>first | rfl | cases hp
    rw [h1,way_mapW hp,dull_unlock (hf.dull p hp)]
  | false=>cases p<;>first | rfl | cases hp
section
variable {w w':World} {Φ Φ':Nat→Prop} {rv rv':Nat→Value} {E E':Nat→PV}
theorem kid_box {v:Value} {p q:PV} {i c:Nat}:kid w v (.box p) i c=kid w v (.box q) i c:=by
  cases v with
  | pointer a=>cases a<;>rfl
  | slice a _ _=>cases a<;>rfl
  | _=>rfl
theorem kid_agg {v:Value} {p q:List PV} {i c:Nat}:kid w v (.agg p) i c=kid w v (.agg q) i c:=by
  cases v with
  | pointer a=>cases a<;>rfl
  | slice a _ _=>cases a<;>rfl
  | _=>rfl
theorem follow_mapW {f:PV→PV} (hf:Tame f):∀ {pre:Path} {p:PV} {v nv:Value} {np':PV},follow w v (p.mapW f) pre=some (nv,np')→np'.heavy0=true →
    ∃ np,follow w v p pre=some (nv,np)∧alike np np'
  | [],p,v,nv,np',h,hh=>by
    simp only [follow,Option.some.injEq,Prod.mk.injEq] at h
    obtain ⟨rfl,rfl⟩:=h
    refine ⟨p,rfl,?_⟩
    cases hp:p.isWay with
    | true=>rw [way_mapW hp,dull_heavy0 (hf.dull p hp)] at hh;cases hh
    | false=>cases p<;>first | (cases hp;done) | (simp [PV.mapW,PV.heavy0] at hh;done) | simp [PV.mapW,alike]
  | (i, c) :: rest,p,v,nv,np',h,hh=>by
    rw [follow_cons] at h
    cases hc:Eng.child (p.mapW f) i c with
    | none=>rw [hc] at h;cases h
    | some q' =>
      rw [hc] at h;simp only [Option.bind_some] at h
      cases hk:kid w v (p.mapW f) i c with
      | none=>rw [hk] at h;cases h
      | some u =>
        rw [hk] at h;simp only [Option.bind_some] at h
        have go:∀ q,Eng.child p i c=some q→kid w v p i c=some u→q'=q.mapW f→∃ np,follow w v p ((i,c)::rest)=some (nv,np)∧alike np np':=by
          intro q h1 h2 h3
          subst h3
          obtain ⟨np,hn,hl⟩:=follow_mapW hf h hh
          exact ⟨np,by rw [follow_cons,h1];simp only [Option.bind_some];rw [h2];exact hn,hl⟩
        cases hp:p.isWay with
        | true =>
          rw [way_mapW hp] at hc
          simp [Eng.child,dull_helems (hf.dull p hp)] at hc
        | false =>
          cases p<;>first | (cases hp;done) | (simp [PV.mapW,Eng.child,helems] at hc;done) | skip
          case own sz xs=>exact ⟨np',by rw [follow_cons];simp only [PV.mapW] at hc hk;rw [hc];simp only [Option.bind_some];rw [hk];exact h,alike.refl hh⟩
          case box q0 =>
            simp only [PV.mapW,Eng.child,helems,Option.bind_some] at hc
            cases i with
            | succ i=>simp at hc
            | zero =>
              simp only [List.getElem?_cons_zero,Option.bind_some] at hc
              rw [mapW_cells hf] at hc
              cases hq:q0.cells[c]? with
              | none=>rw [hq] at hc;cases hc
              | some q =>
                rw [hq] at hc;simp only [Option.map_some,Option.some.injEq] at hc
                exact go q (by simp [Eng.child,helems,hq]) (by rw [← hk,PV.mapW];exact kid_box) hc.symm
          case agg cs =>
            simp only [PV.mapW,Eng.child,helems,Option.bind_some] at hc
            cases i with
            | succ i=>simp at hc
            | zero =>
              simp only [List.getElem?_cons_zero,Option.bind_some,PV.cells] at hc
              rw [mapWs_get] at hc
              cases hq:cs[c]? with
              | none=>rw [hq] at hc;cases hc
              | some q =>
                rw [hq] at hc;simp only [Option.map_some,Option.some.injEq] at hc
                exact go q (by simp [Eng.child,helems,PV.cells,hq]) (by rw [← hk,PV.mapW];exact kid_agg) hc.symm
section
variable {w0:World} {U Φ0:Nat→Prop} {L L':Nat→List Nat}
theorem al_root {a:PV} {v:Value} (h:AlOf w rv E a v):(rootOf a).1<ghost:=by
  cases a<;>simp only [AlOf] at h<;>first | exact h.1 | exact h.elim
theorem al_keep (h:Conf w0 U Φ0 w Φ rv E L) {f:PV→PV} (hf:Tame f) {a:PV} {v:Value} (ha:AlOf w rv E a v) (hE:E' (rootOf a).1=(E (rootOf a).1).mapW f) (hv:rv' (rootOf a).1=rv (rootOf a).1)
    (hb:∀ b∈L (rootOf a).1,w'.heap[b]? = w.heap[b]?):AlOf w' rv' E' a v:=by
  refine ha.mono fun nv np hn hh=>?_
  rw [hE,hv,unlock_mapW hf] at hn
  obtain ⟨np0,hn0,hl⟩:=follow_mapW hf hn hh
  rw [follow_same (rep_unlock (h.rep _)) hb] at hn0
  exact ⟨np0,hn0,hl⟩
theorem al_gone {a:PV} {v:Value} (ha:AlOf w rv E a v) (hE:(E' (rootOf a).1).unlock.heavy=false):AlOf w' rv' E' a v:=by
  refine ha.mono fun nv np hn hh=>?_
  have:=follow_light hE hn
  rw [heavy0_heavy hh] at this;cases this
theorem Conf.step2 (h:Conf w0 U Φ0 w Φ rv E L) (σ:Nat→Option Nat) (f:PV→PV) (hf:Tame f)
    (hσ:∀ s s' t,σ s=some t→σ s'=some t→s=s')
    (hE:∀ s t,σ s=some t→E' s=(E t).mapW f∧rv' s=rv t∧L' s=L t)
    (hN:∀ s,σ s=none→Rep w' Φ (AlOf w' rv' E') (E' s) (rv' s) (L' s))
    (hA:∀ a v,a.isWay=true→AlOf w rv E a v→Rep w' Φ (AlOf w' rv' E') (f a) v [])
    (hd:∀ s,σ s=none→(L' s).Nodup) (hdd:∀ s s',σ s=none→σ s'=none→s≠s'→∀ b∈L' s,b∉L' s')
    (ho:∀ s,σ s=none→∀ b∈L' s,(∃ t,b∈L t∧∀ s,σ s≠some t)∨(w.heap.size≤b∧b<w'.heap.size))
    (hw:w.heap.size≤w'.heap.size) (hk:∀ b,b<w.heap.size→(∀ t,b∈L t→∃ s,σ s=some t)→w'.heap[b]? = w.heap[b]?)
    (hos:w'.os=w.os∧w'.tape=w.tape∧w'.output=w.output):Conf w0 U Φ0 w' Φ rv' E' L':=by
  have hLk:∀ s t,σ s=some t→∀ b∈L t,w'.heap[b]? = w.heap[b]?:=by
    intro s t hs b hb
    refine hk b (h.own t b hb).1 fun t' hb'=>?_
    have:t'=t:=Classical.byContradiction fun hne=>h.disj t' t hne b hb' hb
    exact ⟨s,this▸hs⟩
  have hΦ:Same w w' Φ Φ:=fun b hb=>⟨hb,hk b (h.frz b hb).1 fun t hbt=>absurd hb (h.own t b hbt).2.1⟩
  have hfresh:∀ g,σ g=none→∀ b∈L' g,∀ t,b∈L t→∀ s,σ s≠some t:=by
    intro g hg b hb t hbt s hs
    rcases ho g hg b hb with ⟨t',h1,h2⟩ | ⟨h1,h2⟩
    · have:t'=t:=Classical.byContradiction fun hne=>h.disj t' t hne b h1 hbt
      exact h2 s (this▸hs)
    · have:=(h.own t b hbt).1;omega
  refine ⟨?_,?_,?_,?_,?_,h.frz0,Nat.le_trans h.size hw,?_,hos.1.trans h.os,hos.2.1.trans h.tape,hos.2.2.trans h.output⟩
  · intro s
    cases hs:σ s with
    | some t =>
      obtain ⟨h1,h2,h3⟩:=hE s t hs
      rw [h1,h2,h3]
      exact Rep.map hf.agg hΦ hA _ _ _ (hLk s t hs) (h.rep t)
    | none=>exact hN s hs
  · intro s
    cases hs:σ s with
    | some t=>rw [(hE s t hs).2.2];exact h.nodup t
    | none=>exact hd s hs
  · intro s s' hne b hb hb'
    cases hs:σ s with
    | some t =>
      rw [(hE s t hs).2.2] at hb
      cases hs':σ s' with
      | some t' =>
        rw [(hE s' t' hs').2.2] at hb'
        have:t≠t':=fun e=>hne (hσ s s' t hs (e▸hs'))
        exact h.disj t t' this b hb hb'
      | none=>exact hfresh s' hs' b hb' t hb s hs
    | none =>
      cases hs':σ s' with
      | some t'=>rw [(hE s' t' hs').2.2] at hb';exact hfresh s hs b hb t' hb' s' hs'
      | none=>exact hdd s s' hs hs' hne b hb hb'
  · intro s b hb
    cases hs:σ s with
    | some t =>
      rw [(hE s t hs).2.2] at hb
      have:=h.own t b hb
      exact ⟨Nat.lt_of_lt_of_le this.1 hw,this.2⟩
    | none =>
      rcases ho s hs b hb with ⟨t,h1,_⟩ | ⟨h1,h2⟩
      · have:=h.own t b h1
        exact ⟨Nat.lt_of_lt_of_le this.1 hw,this.2⟩
      · exact ⟨h2,fun hp=>absurd (h.frz b hp).1 (by omega),.inr (Nat.le_trans h.size h1)⟩
  · intro b hb
    have:=h.frz b hb
    exact ⟨Nat.lt_of_lt_of_le this.1 hw,this.2⟩
  · intro b hb hu
    rw [hk b (Nat.lt_of_lt_of_le hb h.size) fun t hbt=>?_]
    · exact h.kept b hb hu
    · rcases (h.own t b hbt).2.2 with h1 | h1
      · exact absurd h1 hu
      · omega
theorem Conf.step (h:Conf w0 U Φ0 w Φ rv E L) (σ:Nat→Option Nat) (f:PV→PV) (g:Nat) (hf:Tame f)
    (hσ:∀ s s' t,σ s=some t→σ s'=some t→s=s')
    (hE:∀ s t,σ s=some t→E' s=(E t).mapW f∧rv' s=rv t∧L' s=L t)
    (hN:∀ s,σ s=none→Rep w' Φ (AlOf w' rv' E') (E' s) (rv' s) (L' s)∧(s≠g→L' s=[]))
    (hA:∀ a v,a.isWay=true→AlOf w rv E a v→Rep w' Φ (AlOf w' rv' E') (f a) v [])
    (hd:σ g=none→(L' g).Nodup) (ho:σ g=none→∀ b∈L' g,(∃ t,b∈L t∧∀ s,σ s≠some t)∨(w.heap.size≤b∧b<w'.heap.size))
    (hw:w.heap.size≤w'.heap.size) (hk:∀ b,b<w.heap.size→(∀ t,b∈L t→∃ s,σ s=some t)→w'.heap[b]? = w.heap[b]?)
    (hos:w'.os=w.os∧w'.tape=w.tape∧w'.output=w.output):Conf w0 U Φ0 w' Φ rv' E' L':=by
  refine h.step2 σ f hf hσ hE (fun s hs=>(hN s hs).1) hA (fun s hs=>?_) (fun s s' hs hs' hne b hb hb'=>?_) (fun s hs b hb=>?_) hw hk hos
  · by_cases hsg:s=g
    · subst hsg;exact hd hs
    · rw [(hN s hs).2 hsg];exact List.nodup_nil
  · by_cases hsg:s=g
    · rw [(hN s' hs').2 (by rw [← hsg];exact Ne.symm hne)] at hb';cases hb'
    · rw [(hN s hs).2 hsg] at hb;cases hb
  · by_cases hsg:s=g
    · subst hsg;exact ho hs b hb
    · rw [(hN s hs).2 hsg] at hb;cases hb
theorem Conf.turn (h:Conf w0 U Φ0 w Φ rv E L) (σ:Nat→Option Nat) (f:PV→PV) (hf:Tame f)
    (hσ:∀ s s' t,σ s=some t→σ s'=some t→s=s')
    (hE:∀ s t,σ s=some t→E' s=(E t).mapW f∧rv' s=rv t∧L' s=L t)
    (hN:∀ s,σ s=none→E' s = .bad∧L' s=[])
    (hA:∀ a v,a.isWay=true→AlOf w rv E a v→Rep w Φ (AlOf w rv' E') (f a) v []):Conf w0 U Φ0 w Φ rv' E' L':=by
  refine h.step σ f 0 hf hσ hE (fun s hs=>?_) hA (fun hs=>?_) (fun hs=>?_) (Nat.le_refl _) (fun _ _ _=>rfl) ⟨rfl,rfl,rfl⟩
  · obtain ⟨h1,h2⟩:=hN s hs
    rw [h1,h2];exact ⟨rfl,fun _=>rfl⟩
  · rw [(hN _ hs).2];exact List.nodup_nil
  · rw [(hN _ hs).2];simp
theorem tame_id:Tame (fun x=>x):=⟨fun _=>rfl,fun p h=>by cases p<;>first | rfl | cases h⟩
theorem tame_or {f:PV→PV} (h:∀ p,f p=p∨(p.isWay=true∧f p = .bad)):Tame f:=by
  refine ⟨fun p=>?_,fun p hp=>?_⟩
  · rcases h p with h | ⟨h1,h2⟩
    · rw [h]
    · rw [h2];cases p<;>first | rfl | cases h1
  · rcases h p with h | ⟨h1,h2⟩
    · rw [h];cases p<;>first | rfl | cases hp
    · rw [h2];rfl
theorem lose_or (r:Nat) (pre:Path) (p:PV):lose r pre p=p∨(p.isWay=true∧lose r pre p = .bad):=by
  cases p<;>first | exact .inl rfl | skip
  all_goals
    simp only [Eng.lose,PV.isWay,true_and]
    cases (Nat.beq _ r&&_)<;>simp
theorem lose_keeps {r:Nat} {p:PV} {v:Value} (h:p.isWay=true) (hl:lose r [] p=p) (ha:AlOf w rv E p v):(rootOf p).1≠r:=by
  intro hr
  cases p<;>first | cases h | skip
  case log=>exact False.elim ha
  all_goals
    simp only [rootOf] at hr;subst hr
    simp [Eng.lose] at hl
theorem Conf.take (h:Conf w0 U Φ0 w Φ rv E L) {s g:Nat} (hs:s<ghost) (hg:ghost≤g):Conf w0 U Φ0 w Φ (upd rv g (rv s)) (upd (upd E s .bad) g (E s)) (upd (upd L s []) g (L s)):=by
  have hsg:s≠g:=by omega
  refine h.turn (fun t=>if t=g then some s else if t=s then none else some t) (fun x=>x) tame_id ?_ ?_ ?_ ?_
  · intro a b t ha hb
    split at ha<;>split at hb<;>simp_all<;>split at ha<;>simp_all
    all_goals (try split at hb)<;>simp_all
  · intro a t ha
    split at ha
    · rename_i e;cases ha;subst e;simp [upd_at,mapW_id]
    · rename_i e
      split at ha
      · cases ha
      · rename_i e2;cases ha;simp [upd_ne e,upd_ne e2,mapW_id]
  · intro a ha
    split at ha
    · cases ha
    · rename_i e
      split at ha
      · rename_i e2;subst e2;simp [upd_ne e,upd_at]
      · cases ha
  · intro a v hw ha
    have hr:(rootOf a).1<ghost:=al_root ha
    refine rep_way hw ?_
    by_cases hrs:(rootOf a).1=s
    · refine al_gone ha ?_
      rw [upd_ne (by omega),hrs,upd_at];rfl
    · refine al_keep h tame_id ha ?_ ?_ (fun _ _=>rfl)
      · rw [upd_ne (by omega),upd_ne hrs,mapW_id]
      · rw [upd_ne (by omega)]
theorem Conf.lay (h:Conf w0 U Φ0 w Φ rv E L) {d g:Nat} (hd:d<ghost) (hg:ghost≤g):Conf w0 U Φ0 w Φ (upd rv d (rv g)) (upd (upd (fun s=>(E s).mapW (lose d [])) d ((E g).mapW (lose d []))) g .bad) (upd (upd L d (L g)) g []):=by
  have hdg:d≠g:=by omega
  refine h.turn (fun t=>if t=g then none else if t=d then some g else some t) (lose d []) (tame_or (lose_or d [])) ?_ ?_ ?_ ?_
  · intro a b t ha hb
    split at ha<;>split at hb<;>simp_all<;>split at ha<;>simp_all
    all_goals (try split at hb)<;>simp_all
  · intro a t ha
    split at ha
    · cases ha
    · rename_i e
      split at ha
      · rename_i e2;cases ha;subst e2;simp [upd_ne e,upd_at]
      · rename_i e2;cases ha;simp [upd_ne e,upd_ne e2]
  · intro a ha
    split at ha
    · rename_i e;subst e;simp [upd_at]
    · split at ha<;>cases ha
  · intro a v hw ha
    have hr:(rootOf a).1<ghost:=al_root ha
    rcases lose_or d [] a with hl | ⟨_,hl⟩
    · rw [hl]
      have hne:=lose_keeps hw hl ha
      refine rep_way hw (al_keep h (tame_or (lose_or d [])) ha ?_ ?_ (fun _ _=>rfl))
      · rw [upd_ne (by omega),upd_ne hne]
      · rw [upd_ne hne]
    · rw [hl];rfl
theorem Conf.lose (h:Conf w0 U Φ0 w Φ rv E L) {f:PV→PV} (hf:∀ p,f p=p∨(p.isWay=true∧f p = .bad)):Conf w0 U Φ0 w Φ rv (fun s=>(E s).mapW f) L:=by
  refine h.turn some f (tame_or hf) (fun a b t ha hb=>by cases ha;cases hb;rfl) (fun a t ha=>by cases ha;exact ⟨rfl,rfl,rfl⟩) (fun a ha=>by cases ha) fun a v hw ha=>?_
  rcases hf a with hl | ⟨_,hl⟩
  · rw [hl];exact rep_way hw (al_keep h (tame_or hf) ha rfl rfl (fun _ _=>rfl))
  · rw [hl];rfl
theorem Conf.drop (h:Conf w0 U Φ0 w Φ rv E L) (D:Nat→Bool):Conf w0 U Φ0 w Φ rv (fun s=>if D s then .bad else E s) (fun s=>if D s then [] else L s):=by
  refine h.turn (fun s=>if D s then none else some s) (fun x=>x) tame_id ?_ ?_ ?_ ?_
  · intro a b t ha hb;split at ha<;>split at hb<;>simp_all
  · intro a t ha;split at ha
    · cases ha
    · rename_i e;cases ha;simp [e,mapW_id]
  · intro a ha;split at ha
    · rename_i e;simp [e]
    · cases ha
  · intro a v hw ha
    refine rep_way hw ?_
    by_cases hd:D (rootOf a).1=true
    · exact al_gone ha (by simp [hd];rfl)
    · exact al_keep h tame_id ha (by simp [hd,mapW_id]) rfl (fun _ _=>rfl)
theorem Conf.hold (h:Conf w0 U Φ0 w Φ rv E L) {g:Nat} (hg:ghost≤g) {p:PV} {v:Value} (hr:Rep w Φ (AlOf w rv E) p v []) :
    Conf w0 U Φ0 w Φ (upd rv g v) (upd E g p) (upd L g []):=by
  have hA:∀ a u,a.isWay=true→AlOf w rv E a u→AlOf w (upd rv g v) (upd E g p) a u:=by
    intro a u _ ha
    have:=al_root ha
    exact al_keep h tame_id ha (by rw [upd_ne (by omega),mapW_id]) (by rw [upd_ne (by omega)]) (fun _ _=>rfl)
  refine h.step (fun s=>if s=g then none else some s) (fun x=>x) g tame_id ?_ ?_ ?_ (fun a u hw ha=>rep_way hw (hA a u hw ha)) (fun _=>?_) (fun _=>?_) (Nat.le_refl _) (fun _ _ _=>rfl) ⟨rfl,rfl,rfl⟩
  · intro a b t ha hb;split at ha<;>split at hb<;>simp_all
  · intro a t ha;split at ha
    · cases ha
    · rename_i e;cases ha;simp [upd_ne e,mapW_id]
  · intro a ha;split at ha
    · rename_i e;subst e
      rw [upd_at,upd_at,upd_at]
      exact ⟨hr.mono Same.refl hA (by simp),fun h=>absurd rfl h⟩
    · cases ha
  · rw [upd_at];exact List.nodup_nil
  · rw [upd_at];simp
theorem Conf.make (h:Conf w0 U Φ0 w Φ rv E L) {w':World} (G:Nat→Bool) (hG:∀ s,G s=true→ghost≤s) {g:Nat} (hg:ghost≤g) {p:PV} {v:Value} {Lp:List Nat}
    (hr:∀ A:Al,(∀ a u,a.isWay=true→AlOf w rv E a u→A a u)→Rep w' Φ A p v Lp) (hd:Lp.Nodup)
    (ho:∀ b∈Lp,(∃ t,b∈L t∧G t=true)∨(w.heap.size≤b∧b<w'.heap.size))
    (hw:w.heap.size≤w'.heap.size) (hk:∀ b,b<w.heap.size→(∀ t,b∈L t→G t=false)→w'.heap[b]? = w.heap[b]?)
    (hos:w'.os=w.os∧w'.tape=w.tape∧w'.output=w.output) :
    Conf w0 U Φ0 w' Φ (upd rv g v) (upd (fun s=>if G s then .bad else E s) g p) (upd (fun s=>if G s then [] else L s) g Lp):=by
  have hA:∀ a u,a.isWay=true→AlOf w rv E a u→AlOf w' (upd rv g v) (upd (fun s=>if G s then .bad else E s) g p) a u:=by
    intro a u _ ha
    have hlt:=al_root ha
    have hne:(rootOf a).1≠g:=by omega
    have hGn:G (rootOf a).1=false:=by
      cases hb:G (rootOf a).1 with
      | false=>rfl
      | true=>have:=hG _ hb;omega
    refine al_keep h tame_id ha (by rw [upd_ne hne];simp [hGn,mapW_id]) (by rw [upd_ne hne]) fun b hb=>hk b (h.own _ b hb).1 fun t ht=>?_
    have:t=(rootOf a).1:=Classical.byContradiction fun hn=>h.disj t _ hn b ht hb
    rw [this];exact hGn
  refine h.step (fun s=>if s=g then none else if G s then none else some s) (fun x=>x) g tame_id ?_ ?_ ?_ (fun a u hw ha=>rep_way hw (hA a u hw ha)) (fun _=>?_) (fun _=>?_) hw ?_ hos
  · intro a b t ha hb
    split at ha<;>split at hb<;>simp_all
  · intro a t ha
    split at ha
    · cases ha
    · rename_i e
      split at ha
      · cases ha
      · rename_i e2;cases ha;simp [upd_ne e,mapW_id,e2]
  · intro a ha
    split at ha
    · rename_i e;subst e
      rw [upd_at,upd_at,upd_at]
      exact ⟨hr _ hA,fun h=>absurd rfl h⟩
    · rename_i e
      split at ha
      · rename_i e2
        rw [upd_ne e,upd_ne e,upd_ne e]
        exact ⟨by simp [e2,Rep],fun _=>by simp [e2]⟩
      · cases ha
  · rw [upd_at];exact hd
  · rw [upd_at]
    intro b hb
    rcases ho b hb with ⟨t,h1,h2⟩ | h1
    · refine .inl ⟨t,h1,fun s hs=>?_⟩
      split at hs
      · cases hs
      · split at hs
        · cases hs
        · rename_i e2;cases hs;exact e2 h2
    · exact .inr h1
  · intro b hb hc
    refine hk b hb fun t ht=>?_
    obtain ⟨s,hs⟩:=hc t ht
    split at hs
    · cases hs
    · split at hs
      · cases hs
      · rename_i e2;cases hs;simpa using e2
theorem alike.trans {p q r:PV} (h1:alike p q) (h2:alike q r):alike p r:=by
  cases p<;>cases q<;>simp only [alike] at h1<;>cases r<;>simp_all [alike]
theorem alOn_mono {A A':Al} (hA:∀ a v,a.isWay=true→A a v→A' a v):∀ {pre:Path} {p:PV},∀ a v,a.isWay=true→alOn A p pre a v→alOn A' p pre a v
  | [],p,a,v,hw,h=>hA a v hw h
  | (i,c)::rest,p,a,v,hw,h=>by
    simp only [alOn] at h ⊢
    cases hc:Eng.child p i c with
    | none=>rw [hc] at h;exact h.elim
    | some q =>
      rw [hc] at h
      exact alOn_mono (below_mono hA) a v hw h
def stays (f:PV→PV) (A:Al):Al:=fun a v=>A a v∧f a=a
theorem Conf.stays (h:Conf w0 U Φ0 w Φ rv E L) {f:PV→PV} (hf:∀ p,f p=p∨(p.isWay=true∧f p = .bad)) (s:Nat):Rep w Φ (stays f (AlOf w rv E)) ((E s).mapW f) (rv s) (L s):=by
  refine Rep.map (tame_or hf).agg Same.refl (fun a v hw ha=>?_) _ _ _ (fun _ _=>rfl) (h.rep s)
  rcases hf a with hl | ⟨_,hl⟩
  · rw [hl];exact rep_way hw ⟨ha,hl⟩
  · rw [hl];rfl
theorem Conf.mod (h:Conf w0 U Φ0 w Φ rv E L) {r:Nat} (hr:r<ghost) {f:PV→PV} (hf:∀ p,f p=p∨(p.isWay=true∧f p = .bad)) {pre:Path} {q:PV}
    (hlock:((E r).mapW f).unlock=(E r).mapW f) (hn:getNode ((E r).mapW f) pre=some q) :
    ∃ nv Li,follow w (rv r) ((E r).mapW f) pre=some (nv,q)∧Rep w Φ (alOn (Eng.stays f (AlOf w rv E)) ((E r).mapW f) pre) q nv Li∧Li.Nodup∧(∀ b∈Li,b∈L r) ∧
      ∀ (G:Nat→Bool) (w':World) (q' root':PV) (Li':List Nat),(∀ s,G s=true→ghost≤s)→(pre≠[]→q'.isAgg=q.isAgg)→modNode (fun _=>some q') ((E r).mapW f) pre=some root'→root'.unlock=root' →
        (∀ A:Al,(∀ a u,a.isWay=true→Eng.stays f (AlOf w rv E) a u→A a u)→Rep w' Φ (alOn A ((E r).mapW f) pre) q' nv Li')→Li'.Nodup →
        (∀ b∈Li',b∈Li∨(∃ t,b∈L t∧G t=true)∨(w.heap.size≤b∧b<w'.heap.size))→w.heap.size≤w'.heap.size →
        (∀ b,b<w.heap.size→b∉Li→(∀ t,b∈L t→G t=false)→w'.heap[b]? = w.heap[b]?) →
        (∀ rest nv2 np2,follow w' nv q' rest=some (nv2,np2)→np2.heavy0=true→(∀ a,a.isWay=true→rootOf a=(r,pre++rest)→f a≠a)∨∃ np0,follow w nv q rest=some (nv2,np0)∧alike np0 np2) →
        (w'.os=w.os∧w'.tape=w.tape∧w'.output=w.output) →
        ∃ L',(∀ s,s≠r→L' s=if G s then [] else L s)∧Conf w0 U Φ0 w' Φ rv (fun s=>if s=r then root' else if G s then .bad else (E s).mapW f) L':=by
  have hs:=h.stays hf r
  obtain ⟨nv,La,Li,Lb,hfo,hL,hrep,hzip,hfol⟩:=Rep.zip pre hs hn
  have hnd:=h.nodup r
  rw [hL] at hnd
  have hnd1:∀ b∈La++Lb,b∉Li:=by
    intro b hb hbi
    simp only [List.nodup_append] at hnd
    rcases List.mem_append.1 hb with hb | hb
    · exact hnd.1.2.2 b hb b hbi rfl
    · exact hnd.2.2 b (by simp [hbi]) b hb rfl
  refine ⟨nv,Li,hfo,hrep,?_,fun b hb=>by rw [hL];simp [hb],?_⟩
  · simp only [List.nodup_append] at hnd;exact hnd.1.2.1
  intro G w' q' root' Li' hG hagg hm hlk hR hd ho hw hk hq2 hos
  have hkL:∀ t,G t=false→∀ b∈L t,b∉Li→w'.heap[b]? = w.heap[b]?:=by
    intro t ht b hb hbi
    refine hk b (h.own t b hb).1 hbi fun t' ht'=>?_
    have:t'=t:=Classical.byContradiction fun hne=>h.disj t' t hne b ht' hb
    rw [this];exact ht
  have hGr:G r=false:=by
    cases hb:G r with
    | false=>rfl
    | true=>have:=hG _ hb;omega
  have hbLL:∀ b∈La++Lb,w'.heap[b]? = w.heap[b]?:=by
    intro b hb
    exact hkL r hGr b (by rw [hL];simp at hb ⊢;rcases hb with h | h<;>simp [h]) (hnd1 b hb)
  have hLiL:∀ t,t≠r→∀ b∈L t,b∉Li:=by
    intro t hne b hb hbi
    exact h.disj t r hne b hb (by rw [hL];simp [hbi])
  have hA : ∀ a u,a.isWay=true→AlOf w rv E a u→f a=a→AlOf w' rv (fun s=>if s=r then root' else if G s then .bad else (E s).mapW f) a u:=by
    intro a u haw ha hfa
    have hlt:=al_root ha
    by_cases hra:(rootOf a).1=r
    · refine ha.mono fun nv2 np2 hn2 hh=>?_
      simp only [hra,if_true] at hn2 ⊢
      rw [hlk] at hn2
      have back:∀ np0,follow w (rv r) ((E r).mapW f) (rootOf a).2=some (nv2,np0)→alike np0 np2→∃ np0,follow w (rv r) (E r).unlock (rootOf a).2=some (nv2,np0)∧alike np0 np2:=by
        intro np0 h1 h2
        rw [← hlock,unlock_mapW (tame_or hf)] at h1
        obtain ⟨np1,h3,h4⟩:=follow_mapW (tame_or hf) h1 (alike_heavy0 h2)
        exact ⟨np1,h3,h4.trans h2⟩
      rcases hfol w' q' root' hbLL hagg hm _ nv2 np2 hn2 hh with ⟨rest,h1,h2⟩ | ⟨np0,h1,h2⟩
      · rcases hq2 rest nv2 np2 h2 hh with h3 | ⟨np0,h3,h4⟩
        · exact absurd hfa (h3 a haw (Prod.ext hra h1))
        · refine back np0 ?_ h4
          rw [h1,follow_append,hfo];exact h3
      · exact back np0 h1 h2
    · have hGa:G (rootOf a).1=false:=by
        cases hb:G (rootOf a).1 with
        | false=>rfl
        | true=>have:=hG _ hb;omega
      exact al_keep h (tame_or hf) ha (by simp [hra,hGa]) rfl fun b hb=>hkL _ hGa b hb (hLiL _ hra b hb)
  have hA':∀ a u,a.isWay=true→AlOf w rv E a u→Rep w' Φ (AlOf w' rv (fun s=>if s=r then root' else if G s then .bad else (E s).mapW f)) (f a) u []:=by
    intro a u haw ha
    rcases hf a with hl | ⟨_,hl⟩
    · rw [hl];exact rep_way haw (hA a u haw ha hl)
    · rw [hl];rfl
  have hΦ:Same w w' Φ Φ:=fun b hb=>⟨hb,hk b (h.frz b hb).1 (fun hbi=>(h.own r b (by rw [hL];simp [hbi])).2.1 hb) fun t hbt=>absurd hb (h.own t b hbt).2.1⟩
  refine ⟨fun s=>if s=r then La++Li'++Lb else if G s then [] else L s,fun s hsr=>by simp [hsr],?_⟩
  refine h.step (fun s=>if s=r then none else if G s then none else some s) f r (tame_or hf) ?_ ?_ ?_ hA' (fun _=>?_) (fun _=>?_) hw ?_ hos
  · intro a b t ha hb
    split at ha<;>split at hb<;>simp_all
  · intro a t ha
    split at ha
    · cases ha
    · rename_i e
      split at ha
      · cases ha
      · rename_i e2;cases ha;simp [e,e2]
  · intro a ha
    by_cases e:a=r
    · subst e
      simp only [if_true]
      exact ⟨hzip w' Φ _ q' Li' root' (fun a u haw ha=>hA a u haw ha.1 ha.2) hΦ hbLL hagg (hR _ fun a u haw ha=>hA a u haw ha.1 ha.2) hm,fun h=>absurd rfl h⟩
    · simp only [e,if_false] at ha ⊢
      split at ha
      · rename_i e2;exact ⟨by simp [e2,Rep],fun _=>by simp [e2]⟩
      · cases ha
  · simp only [if_true]
    simp only [List.nodup_append] at hnd ⊢
    have hx:∀ b∈Li',b∈La++Lb→False:=by
      intro b hb hb2
      have hbr:b∈L r:=by rw [hL];simp at hb2 ⊢;rcases hb2 with h | h<;>simp [h]
      rcases ho b hb with h1 | ⟨t,h1,h2⟩ | h1
      · exact hnd1 b hb2 h1
      · have:t≠r:=fun e=>by rw [e,hGr] at h2;cases h2
        exact h.disj t r this b h1 hbr
      · have:=(h.own r b hbr).1;omega
    refine ⟨⟨hnd.1.1,hd,fun a ha b hb e=>hx b hb (by subst e;simp [ha])⟩,hnd.2.1,fun a ha b hb e=>?_⟩
    subst e
    rcases List.mem_append.1 ha with ha | ha
    · exact hnd.2.2 a (by simp [ha]) a hb rfl
    · exact hx a ha (by simp [hb])
  · simp only [if_true]
    intro b hb
    have hnone:∀ t,t=r∨G t=true→∀ s,(if s=r then none else if G s then none else some s)≠some t:=by
      intro t ht s hs
      split at hs
      · cases hs
      · rename_i e
        split at hs
        · cases hs
        · rename_i e2;cases hs
          rcases ht with h | h
          · exact e h
          · exact e2 h
    rcases List.mem_append.1 hb with hb | hb
    · rcases List.mem_append.1 hb with hb | hb
      · exact .inl ⟨r,by rw [hL];simp [hb],hnone r (.inl rfl)⟩
      · rcases ho b hb with h1 | ⟨t,h1,h2⟩ | h1
        · exact .inl ⟨r,by rw [hL];simp [h1],hnone r (.inl rfl)⟩
        · exact .inl ⟨t,h1,hnone t (.inr h2)⟩
        · exact .inr h1
    · exact .inl ⟨r,by rw [hL];simp [hb],hnone r (.inl rfl)⟩
  · intro b hb hc
    have hno:b∉L r:=by
      intro hbr
      obtain ⟨s,hs⟩:=hc r hbr
      split at hs
      · cases hs
      · rename_i e
        split at hs
        · cases hs
        · cases hs;exact e rfl
    refine hk b hb (fun hbi=>hno (by rw [hL];simp [hbi])) fun t ht=>?_
    obtain ⟨s,hs⟩:=hc t ht
    split at hs
    · cases hs
    · split at hs
      · cases hs
      · rename_i e2;cases hs;simpa using e2
theorem Conf.takeNode (h:Conf w0 U Φ0 w Φ rv E L) {r g:Nat} (hr:r<ghost) (hg:ghost≤g) {pre:Path} {q root':PV} (hlock:(E r).unlock=E r) (hn:getNode (E r) pre=some q) (hagg:q.isAgg=false)
    (hm:modNode (fun _=>some .bad) (E r) pre=some root') (hlk:root'.unlock=root') :
    ∃ nv Li,follow w (rv r) (E r) pre=some (nv,q)∧Rep w Φ (AlOf w rv E) q nv Li∧Li.Nodup∧(∀ b∈Li,b∈L r)∧∀ (p':PV) (v':Value) (Lg:List Nat),Rep w Φ (AlOf w rv E) p' v' Lg→Lg.Nodup→(∀ b∈Lg,b∈Li∨b∈L g) →
      ∃ L',Conf w0 U Φ0 w Φ (upd rv g v') (upd (upd E r root') g p') L'∧∀ s,s≠r→s≠g→L' s=L s:=by
  have hrg:r≠g:=by omega
  obtain ⟨nv,La,Li,Lb,hfo,hL,hrep,hzip,hfol⟩:=Rep.zip pre (h.rep r) hn
  have hnd:=h.nodup r
  rw [hL] at hnd
  simp only [List.nodup_append] at hnd
  have hsub:∀ b,b∈La++Lb→b∈L r:=fun b hb=>by rw [hL];simp at hb ⊢;rcases hb with h | h<;>simp [h]
  have hsubi:∀ b∈Li,b∈L r:=fun b hb=>by rw [hL];simp [hb]
  have hdis:∀ b∈Li,b∉La++Lb:=by
    intro b hb hb2
    rcases List.mem_append.1 hb2 with h2 | h2
    · exact hnd.1.2.2 b h2 b hb rfl
    · exact hnd.2.2 b (by simp [hb]) b h2 rfl
  refine ⟨nv,Li,hfo,hrep.mono Same.refl (fun _ _ _ h=>alOn_le h) (fun _ _=>rfl),hnd.1.2.1,hsubi,fun p' v' Lg hp' hLg hLgm=>?_⟩
  have hdis2:∀ b∈Lg,b∉La++Lb:=by
    intro b hb hb2
    rcases hLgm b hb with h1 | h1
    · exact hdis b h1 hb2
    · exact h.disj r g hrg b (hsub b hb2) h1
  have hA:∀ a u,a.isWay=true→AlOf w rv E a u→AlOf w (upd rv g v') (upd (upd E r root') g p') a u:=by
    intro a u haw ha
    have hlt:=al_root ha
    by_cases hra:(rootOf a).1=r
    · refine ha.mono fun nv2 np2 hn2 hh=>?_
      rw [hra] at hn2 ⊢
      rw [upd_ne hrg,upd_ne hrg,upd_at,hlk] at hn2
      rcases hfol w .bad root' (fun _ _=>rfl) (fun _=>hagg.symm) hm _ nv2 np2 hn2 hh with ⟨rest,h1,h2⟩ | ⟨np0,h1,h2⟩
      · cases rest with
        | nil=>simp only [follow,Option.some.injEq,Prod.mk.injEq] at h2;rw [← h2.2] at hh;cases hh
        | cons x rest=>obtain ⟨i,c⟩:=x;rw [follow_cons] at h2;simp [Eng.child,helems] at h2
      · rw [hlock];exact ⟨np0,h1,h2⟩
    · exact al_keep h tame_id ha (by rw [upd_ne (by omega),upd_ne hra,mapW_id]) (by rw [upd_ne (by omega)]) (fun _ _=>rfl)
  refine ⟨upd (upd L r (La++Lb)) g Lg,?_,fun s h1 h2=>by rw [upd_ne h2,upd_ne h1]⟩
  refine h.step2 (fun s=>if s=r then none else if s=g then none else some s) (fun x=>x) tame_id ?_ ?_ ?_ (fun a u haw ha=>rep_way haw (hA a u haw ha)) ?_ ?_ ?_ (Nat.le_refl _) (fun _ _ _=>rfl) ⟨rfl,rfl,rfl⟩
  · intro a b t ha hb
    split at ha<;>split at hb<;>simp_all
  · intro a t ha
    split at ha
    · cases ha
    · rename_i e1
      split at ha
      · cases ha
      · rename_i e2;cases ha;simp [upd_ne e1,upd_ne e2,mapW_id]
  · intro a ha
    by_cases e1:a=r
    · subst e1
      rw [upd_ne hrg,upd_ne hrg,upd_ne hrg,upd_at,upd_at]
      have:=hzip w Φ (AlOf w (upd rv g v') (upd (upd E a root') g p')) .bad [] root' hA Same.refl (fun _ _=>rfl) (fun _=>hagg.symm) rfl hm
      simpa using this
    · have e2:a=g:=by
        rw [if_neg e1] at ha
        by_cases e2:a=g
        · exact e2
        · rw [if_neg e2] at ha;cases ha
      subst e2
      rw [upd_at,upd_at,upd_at]
      exact hp'.mono Same.refl (fun a u hw h=>hA a u hw h) (fun _ _=>rfl)
  · intro a ha
    by_cases e1:a=r
    · subst e1
      rw [upd_ne hrg,upd_at,List.nodup_append]
      exact ⟨hnd.1.1,hnd.2.1,fun x hx y hy e=>hnd.2.2 x (by simp [hx]) y hy e⟩
    · rw [if_neg e1] at ha
      by_cases e2:a=g
      · subst e2;rw [upd_at];exact hLg
      · rw [if_neg e2] at ha;cases ha
  · intro s s' hs hs' hne b hb hb'
    have hs2:s=r∨s=g:=by by_cases e1:s=r;exact .inl e1;rw [if_neg e1] at hs;by_cases e2:s=g;exact .inr e2;rw [if_neg e2] at hs;cases hs
    have hs2':s'=r∨s'=g:=by by_cases e1:s'=r;exact .inl e1;rw [if_neg e1] at hs';by_cases e2:s'=g;exact .inr e2;rw [if_neg e2] at hs';cases hs'
    rcases hs2 with rfl | rfl<;>rcases hs2' with rfl | rfl
    · exact hne rfl
    · rw [upd_ne hrg,upd_at] at hb;rw [upd_at] at hb';exact hdis2 b hb' hb
    · rw [upd_at] at hb;rw [upd_ne hrg,upd_at] at hb';exact hdis2 b hb hb'
    · exact hne rfl
  · intro s hs b hb
    have hs2:s=r∨s=g:=by by_cases e1:s=r;exact .inl e1;rw [if_neg e1] at hs;by_cases e2:s=g;exact .inr e2;rw [if_neg e2] at hs;cases hs
    have hno:∀ t,t=r∨t=g→∀ x,(if x=r then none else if x=g then none else some x)≠some t:=by
      intro t ht x hx
      split at hx
      · cases hx
      · rename_i e1
        split at hx
        · cases hx
        · rename_i e2;cases hx;rcases ht with h | h<;>contradiction
    rcases hs2 with rfl | rfl
    · rw [upd_ne hrg,upd_at] at hb;exact .inl ⟨s,hsub b hb,hno s (.inl rfl)⟩
    · rw [upd_at] at hb
      rcases hLgm b hb with h1 | h1
      · exact .inl ⟨r,hsubi b h1,hno r (.inl rfl)⟩
      · exact .inl ⟨s,h1,hno s (.inr rfl)⟩
end
end
end Go.Eng
namespace Go.Eng
open Go
theorem freezes_length:∀ ps:List PV,(freezes ps).length=ps.length
  | []=>rfl
  | p::ps=>by simp [freezes,freezes_length ps]
theorem freezes_get:∀ (ps:List PV) (i:Nat),(freezes ps)[i]? = (ps[i]?).map freeze
  | [],i=>by simp [freezes]
  | p::ps,0=>by simp [freezes]
  | p::ps,i+1=>by simp only [freezes,List.getElem?_cons_succ];exact freezes_get ps i
theorem freezes_eq:∀ ps:List PV,freezes ps=ps.map freeze
  | []=>rfl
  | p::ps=>by simp [freezes,freezes_eq ps]
theorem freeze_isAgg (p:PV):(freeze p).isAgg=p.isAgg:=by cases p<;>rfl
theorem freeze_cells (p:PV):(freeze p).cells=freezes p.cells:=by cases p<;>rfl
theorem freeze_len (p:PV):(freeze p).cells.length=p.cells.length:=by rw [freeze_cells,freezes_length]
theorem freezes_isAgg (ps:List PV):(freezes ps).map PV.isAgg=ps.map PV.isAgg:=by
  rw [freezes_eq,List.map_map];exact List.map_congr_left fun p _=>freeze_isAgg p
section
variable {w:World} {Φ Φ':Nat→Prop}
mutual
theorem rep_freeze {A:Al} (hΦ:∀ b,Φ b→Φ' b):∀ (p:PV) (v:Value) (L:List Nat),(∀ b∈L,Φ' b)→Rep w Φ A p v L→Rep w Φ' A (freeze p) v []
  | .own sz xs,v,L,hL,h=>by
    obtain ⟨h1,h2,h3⟩ | ⟨a,n,c,us,L',rfl,h1,h2,h3,h4,h5,h6,h7,h8,h9⟩:=h
    · subst h1;exact ⟨rfl,.inl ⟨rfl,none,0,h3⟩⟩
    · refine ⟨rfl,.inr ⟨a,n,c,us,sz,by rw [freezes_length];exact h1,h2,by rw [freezes_length];exact h3,hL _ (by simp),h4.any,?_,⟨h7.1,by rw [freezes_isAgg];exact h7.2⟩,by rw [freezes_length];exact h8,?_⟩⟩
      · intro x hx
        rw [freezes_eq] at hx
        obtain ⟨y,hy,rfl⟩:=List.mem_map.1 hx
        rw [freeze_len];exact h6 y hy
      · exact reps_freeze hΦ xs us L' (fun b hb=>hL b (by simp [hb])) h9
  | .box q,v,L,hL,h=>by
    obtain ⟨a,c,u,L',rfl,h1,h2,h4,h5,h6,h7⟩:=h
    exact ⟨rfl,a,c,u,h1,h2,hL _ (by simp),h4.any,by rw [freeze_len];exact h5,by rw [freeze_len,freeze_isAgg];exact h6,rep_freeze hΦ q u L' (fun b hb=>hL b (by simp [hb])) h7⟩
  | .omap es,v,L,hL,h=>by
    obtain ⟨b,ents,rfl,h1,h3,h4⟩:=h
    exact ⟨rfl,b,ents,h1,hL _ (by simp),h3,RepM.same (fun b hb=>⟨hΦ b hb,rfl⟩) es _ _ h4⟩
  | .agg cs,v,L,hL,h=>by
    obtain ⟨vs,rfl,h⟩:=h
    exact ⟨vs,rfl,reps_freeze hΦ cs _ L hL h⟩
  | .tup _,_,_,_,_=>rfl
  | .lock _,_,_,_,_=>rfl
  | .bad,_,_,_,_=>rfl
  | .und,_,_,_,h=>⟨h.1,rfl⟩
  | .int ..,_,_,_,h=>⟨h.1,rfl⟩
  | .bool _,_,_,_,h=>⟨h.1,rfl⟩
  | .nilp,_,_,_,h=>⟨h.1,rfl⟩
  | .nilf,_,_,_,h=>⟨h.1,rfl⟩
  | .nilm,_,_,_,h=>⟨h.1,rfl⟩
  | .nils _,_,_,_,h=>⟨h.1,rfl⟩
  | .sl xs,v,L,_,h=>by have h0:=h.1;subst h0;exact h.mono (fun b hb=>⟨hΦ b hb,rfl⟩) (fun _ _ _ h=>h) (fun _ _=>rfl)
  | .ref q,v,L,_,h=>by have h0:=h.1;subst h0;exact h.mono (fun b hb=>⟨hΦ b hb,rfl⟩) (fun _ _ _ h=>h) (fun _ _=>rfl)
  | .map es,v,L,_,h=>by have h0:=h.1;subst h0;exact h.mono (fun b hb=>⟨hΦ b hb,rfl⟩) (fun _ _ _ h=>h) (fun _ _=>rfl)
  | .func _ _ _,v,L,_,h=>by have h0:=h.1;subst h0;exact h.mono (fun b hb=>⟨hΦ b hb,rfl⟩) (fun _ _ _ h=>h) (fun _ _=>rfl)
  | .addr ..,_,_,_,h=>⟨rfl,h.2⟩
  | .bor ..,_,_,_,h=>⟨rfl,h.2⟩
  | .bsl ..,_,_,_,h=>⟨rfl,h.2⟩
  | .bmap ..,_,_,_,h=>⟨rfl,h.2⟩
  | .yld _,_,_,_,h=>⟨rfl,h.2⟩
  | .log ..,_,_,_,h=>⟨rfl,h.2⟩
theorem reps_freeze {A:Al} (hΦ:∀ b,Φ b→Φ' b):∀ (ps:List PV) (vs:List Value) (L:List Nat),(∀ b∈L,Φ' b)→Reps w Φ A ps vs L→Reps w Φ' A (freezes ps) vs []
  | [],_,_,_,h=>⟨h.1,rfl⟩
  | p::ps,vs,L,hL,h=>by
    obtain ⟨v,vs',L1,L2,rfl,rfl,h1,h2⟩:=h
    exact ⟨v,vs',[],[],rfl,rfl,rep_freeze hΦ p v L1 (fun b hb=>hL b (by simp [hb])) h1,reps_freeze hΦ ps vs' L2 (fun b hb=>hL b (by simp [hb])) h2⟩
end
theorem freeze_light:∀ {pre:Path} {p:PV} {v nv:Value} {np:PV},follow w v (freeze p) pre=some (nv,np)→np.heavy0=false
  | [],p,v,nv,np,h=>by
    simp only [follow,Option.some.injEq,Prod.mk.injEq] at h
    obtain ⟨_,rfl⟩:=h
    cases p<;>rfl
  | (i, c)::rest,p,v,nv,np,h=>by
    rw [follow_cons] at h
    cases hc:Eng.child (freeze p) i c with
    | none=>rw [hc] at h;cases h
    | some q =>
      rw [hc] at h;simp only [Option.bind_some] at h
      cases hk:kid w v (freeze p) i c with
      | none=>rw [hk] at h;cases h
      | some u =>
        rw [hk] at h;simp only [Option.bind_some] at h
        cases p<;>first | (simp [Eng.child,helems,freeze] at hc;done) | skip
        rename_i cs
        cases i with
        | succ i=>simp [Eng.child,helems,freeze] at hc
        | zero =>
          simp only [Eng.child,helems,freeze,Option.bind_some,List.getElem?_cons_zero,PV.cells] at hc
          rw [freezes_get] at hc
          cases hq:cs[c]? with
          | none=>rw [hq] at hc;cases hc
          | some q0=>rw [hq] at hc;simp only [Option.map_some,Option.some.injEq] at hc;subst hc;exact freeze_light h
end
theorem seg_ext {c:Array Value} {o n:Nat} {l:List Value} (hl:l.length=n) (h:∀ k u,l[k]? = some u→c[o+k]? = some u):seg c o n=l:=by
  apply List.ext_getElem?
  intro k
  simp only [seg,List.getElem?_take,List.getElem?_drop]
  by_cases hk:k<n
  · rw [if_pos hk]
    have : ∃ u, l[k]? = some u := ⟨l[k]'(by omega), by simp [hl, hk]⟩
    obtain ⟨u,hu⟩:=this
    rw [hu,Array.getElem?_toList];exact h k u hu
  · rw [if_neg hk,List.getElem?_eq_none (by omega)]
section
variable {w:World} {Φ:Nat→Prop}
theorem node_row {A:Al} {np:PV} {nv:Value} {Li:List Nat} (h:Rep w Φ A np nv Li) {xs:List PV} (hx:hcells np=some xs) {i:Nat} {x:PV} (hi:xs[i]? = some x) :
    ∃ ux row ad Lx,ad.block∈Li∧ad.spot=none∧RowAt w ad.block row∧(∀ b∈Lx,b∈Li)∧(∀ c,addrIn nv np i c=some (cellOf ad c)) ∧
      (∀ c n,c+n≤x.cells.length→seg row (ad.off+c) n=(ux.cells.toList.drop c).take n)∧vAgg ux=x.isAgg∧ux.cells.size=x.cells.length∧Rep w Φ (below A np) x ux Lx:=by
  cases np<;>simp only [hcells] at hx<;>try cases hx
  case own sz =>
    obtain ⟨h1,h2,h3⟩ | ⟨a,n,r,us,L',rfl,h1,h2,h3,h4,h5,h6,⟨h7,h7'⟩,h8,h9⟩:=h
    · subst h1;simp at hi
    · obtain ⟨ux,La,Lx,Lb,hu,rfl,hr,_,_⟩:=h9.split hi
      have hg:vAgg ux=x.isAgg:=by
        have h1:(us.map vAgg)[i]? = some (vAgg ux):=by simp [hu]
        have h2:(xs.map PV.isAgg)[i]? = some x.isAgg:=by simp [hi]
        rw [h7'] at h1;rw [h1] at h2;simpa using h2
      have hsz:ux.cells.size=x.cells.length:=by rw [h7 ux (List.mem_of_getElem? hu),h6 x (List.mem_of_getElem? hi)]
      subst h1
      refine ⟨ux,r,cellOf a (i*sz),Lx,by simp [cellOf],rfl,h4,fun b hb=>by simp [hb],fun c=>by simp [addrIn,cellOf,Nat.add_assoc],?_,hg,hsz,hr⟩
      intro c m hcm
      refine seg_ext (by simp;omega) fun k u hk=>?_
      simp only [List.getElem?_take,List.getElem?_drop] at hk
      split at hk
      · have hf:=flat_get h7 hu hk
        rw [← h8] at hf
        have:=seg_get hf
        simp only [cellOf]
        rw [show a.off+i*sz+c+k=a.off+(i*sz+(c+k)) by omega];exact this
      · cases hk
  case box q0 =>
    obtain ⟨a,r,u0,L',rfl,h1,h2,h4,h5,⟨h6,h6'⟩,h7⟩:=h
    have hi0:i=0:=by
      cases i with
      | zero=>rfl
      | succ i=>simp at hi
    subst hi0;simp at hi;subst hi
    subst h1
    refine ⟨u0,r,a,L',by simp,h2,h4,fun b hb=>by simp [hb],fun c=>rfl,?_,h6',h6,h7⟩
    intro c m hcm
    refine seg_ext (by simp;omega) fun k u hk=>?_
    simp only [List.getElem?_take,List.getElem?_drop] at hk
    split at hk
    · have:=seg_get (c:=r) (o:=a.off) (n:=q0.cells.length) (k:=c+k) (u:=u) (by rw [h5];exact hk)
      rw [Nat.add_assoc];exact this
    · cases hk
end
theorem flat_cons (u:Value) (us:List Value):flat (u::us)=u.cells.toList++flat us:=rfl
theorem flat_drop {sz:Nat}:∀ {us:List Value},(∀ u∈us,u.cells.size=sz)→∀ lo,(flat us).drop (lo*sz)=flat (us.drop lo)
  | [],_,lo=>by simp [flat]
  | u::us,h,0=>by simp
  | u::us,h,lo+1=>by
    have hu:u.cells.toList.length=sz:=by simpa using h u (by simp)
    rw [flat_cons,Nat.succ_mul,Nat.add_comm,← List.drop_drop,List.drop_left' hu]
    exact flat_drop (fun u hu=>h u (by simp [hu])) lo
theorem flat_take {sz:Nat}:∀ {us:List Value},(∀ u∈us,u.cells.size=sz)→∀ n,(flat us).take (n*sz)=flat (us.take n)
  | [],_,n=>by simp [flat]
  | u::us,h,0=>by simp [flat]
  | u::us,h,n+1=>by
    have hu:u.cells.toList.length=sz:=by simpa using h u (by simp)
    rw [List.take_succ_cons,flat_cons,flat_cons,Nat.succ_mul,Nat.add_comm,List.take_append,List.take_of_length_le (by omega),hu]
    congr 1
    rw [show sz+n*sz-sz=n*sz by omega]
    exact flat_take (fun u hu=>h u (by simp [hu])) n
theorem flat_length {sz:Nat}:∀ {us:List Value},(∀ u∈us,u.cells.size=sz)→(flat us).length=us.length*sz
  | [],_=>by simp [flat]
  | u::us,h=>by
    have hu:u.cells.toList.length=sz:=by simpa using h u (by simp)
    rw [flat_cons,List.length_append,hu,flat_length (fun u hu=>h u (by simp [hu])),List.length_cons,Nat.succ_mul,Nat.add_comm]
theorem seg_flat {c:Array Value} {o sz m:Nat} {us:List Value} (hs:∀ u∈us,u.cells.size=sz) (hm:us.length=m) (h:seg c o (m*sz)=flat us) {lo n:Nat} (hn:lo+n≤m) :
    seg c (o+lo*sz) (n*sz)=flat ((us.drop lo).take n):=by
  have h1:seg c (o+lo*sz) (n*sz)=(((seg c o (m*sz)).drop (lo*sz)).take (n*sz)):=by
    apply List.ext_getElem?
    intro k
    simp only [seg,List.getElem?_take,List.getElem?_drop]
    by_cases hk:k<n*sz
    · have:lo*sz+n*sz≤m*sz:=by rw [← Nat.add_mul];exact Nat.mul_le_mul_right _ hn
      rw [if_pos hk,if_pos hk,if_pos (by omega),Nat.add_assoc]
    · rw [if_neg hk,if_neg hk]
  rw [h1,h,flat_drop hs,flat_take (fun u hu=>hs u (List.mem_of_mem_drop hu))]
theorem Reps.map_isAgg {us:List Value} {xs:List PV} (h:us.map vAgg=xs.map PV.isAgg) (lo n:Nat):((us.drop lo).take n).map vAgg=((xs.drop lo).take n).map PV.isAgg:=by
  rw [List.map_take,List.map_drop,h,List.map_take,List.map_drop]
section
variable {w:World} {Φ Φ':Nat→Prop} {rv:Nat→Value} {E E':Nat→PV}
theorem reps_part_nil {A:Al} {ps:List PV} {us:List Value} (h:Reps w Φ A ps us []) (c n:Nat):Reps w Φ A ((ps.drop c).take n) ((us.drop c).take n) []:=by
  have key:∀ (ps:List PV) (us:List Value) (c n:Nat),Reps w Φ A ps us []→Reps w Φ A ((ps.drop c).take n) ((us.drop c).take n) []:=by
    intro ps
    induction ps with
    | nil=>intro us c n h;rw [h.1];simp [Reps]
    | cons p ps ih =>
      intro us c n h
      obtain ⟨v,vs,L1,L2,rfl,hL,h1,h2⟩:=h
      obtain ⟨rfl,rfl⟩:L1=[]∧L2=[]:=by simpa using hL.symm
      cases c with
      | succ c=>simpa using ih vs c n h2
      | zero =>
        cases n with
        | zero=>simp [Reps]
        | succ n=>exact ⟨v,_,[],[],rfl,rfl,h1,by simpa using ih vs 0 n h2⟩
  exact key ps us c n h
theorem al_oneCell {a:PV} {v:Value} (hw:a.isWay=true) (h:AlOf w rv E a v):v.oneCell'=true:=by
  cases a<;>first | cases hw | skip
  · obtain ⟨_,a,rfl,_⟩:=h;rfl
  · obtain ⟨_,⟨a,c,rfl,_⟩,_⟩:=h;rfl
  · obtain ⟨_,a,c,rfl,_⟩:=h;rfl
  · obtain ⟨_,⟨b,rfl⟩,_⟩:=h;rfl
  · exact h.elim
theorem rep_oneCell {A:Al} (hA:∀ a v,a.isWay=true→A a v→v.oneCell'=true) {q:PV} {u:Value} {L:List Nat} (h:Rep w Φ A q u L) (hq:q.oneCell=true):u.oneCell'=true:=by
  cases q<;>first | cases hq | skip
  case int=>rw [h.1];rfl
  case bool=>rw [h.1];rfl
  case nilp=>rw [h.1];rfl
  case nilf=>rw [h.1];rfl
  case nilm=>rw [h.1];rfl
  case nils=>rw [h.1];rfl
  case sl=>obtain ⟨_,⟨_,a,n,rfl⟩ | ⟨a,n,c,us,sz,rfl,_⟩⟩:=h<;>rfl
  case own=>obtain ⟨_,_,rfl⟩ | ⟨a,n,c,us,L',_,rfl,_⟩:=h<;>rfl
  case ref=>obtain ⟨_,a,c,u,rfl,_⟩:=h;rfl
  case box=>obtain ⟨a,c,u,L',_,rfl,_⟩:=h;rfl
  case map=>obtain ⟨_,b,e,rfl,_⟩:=h;rfl
  case omap=>obtain ⟨b,e,_,rfl,_⟩:=h;rfl
  case func=>obtain ⟨_,fs,cs,rfl,_⟩:=h;rfl
  all_goals exact hA _ _ rfl h.2
theorem oneCell_cells {v:Value} (h:v.oneCell'=true):v.cells=#[v]∧vAgg v=false:=by
  cases v<;>first | exact ⟨rfl,rfl⟩ | cases h
theorem oneCell_pv {p:PV} (h:p.oneCell=true):p.cells=[p]∧p.isAgg=false:=by
  cases p<;>first | exact ⟨rfl,rfl⟩ | cases h
theorem inline_rep {A A':Al} (hA1:∀ a v,a.isWay=true→A a v→v.oneCell'=true) (hΦ:∀ b,Φ b→Φ' b) (hA:∀ a v,a.isWay=true→A a v→A' a v) {x:PV} {xv:Value} {Lx:List Nat} (hx:Rep w Φ A x xv Lx) (hL:∀ b∈Lx,Φ' b) {i c:Nat} {sh:Option Nat} {v:Value} {a:Addr}
    (hv:v = .pointer (some a)) (ha:∀ a',addrIn xv x i c=some a'→a=a'):Rep w Φ' A' (inlineAt i c sh x) v []:=by
  simp only [inlineAt]
  cases hh:hcells x with
  | none=>rfl
  | some xs =>
    simp only
    cases hi:xs[i]? with
    | none=>rfl
    | some y =>
      simp only
      obtain ⟨ux,row,ad,Ly,h1,h2,h3,h4,h5,h6,h7,h8,h9⟩:=node_row hx hh hi
      have had:=ha _ (h5 c)
      have hbel:∀ a v,a.isWay=true→below A x a v→A' a v:=fun a v hw h=>hA a v hw (below_le h)
      cases sh with
      | some m =>
        simp only
        by_cases hle:c+m≤y.cells.length
        · rw [Nat.ble_eq_true_of_le hle]
          cases hya:y.isAgg with
          | false=>rfl
          | true =>
            simp only [Bool.and_self,cond_true]
            cases y<;>simp [PV.isAgg] at hya
            rename_i cs
            obtain ⟨vs,rfl,hr⟩:=h9
            have hr':=reps_part_nil (reps_freeze hΦ cs _ Ly (fun b hb=>hL b (h4 b hb)) hr) c m
            have hlen:=hr.length
            refine ⟨rfl,a,row,.agg ((vs.toList.drop c).take m).toArray,hv,by rw [had];rfl,by rw [had];exact hL _ h1,by rw [had];exact h3.any,?_,⟨?_,rfl⟩,?_⟩
            · rw [had]
              simp only [cellOf,PV.cells,freezes_length,Value.cells]
              have:=h6 c m hle
              simp only [PV.cells] at hle
              rw [show ((cs.drop c).take m).length=m by simp;omega,this];rfl
            · simp only [Value.cells,PV.cells,freezes_length];simp at hlen ⊢;omega
            · refine ⟨_,rfl,?_⟩
              have e:freezes ((cs.drop c).take m)=((freezes cs).drop c).take m:=by rw [freezes_eq,freezes_eq,List.map_take,List.map_drop]
              simp only [PV.cells] 
              rw [e]
              exact hr'.mono Same.refl hbel (by simp)
        · have:Nat.ble (c+m) y.cells.length=false:=by
            cases hb:Nat.ble (c+m) y.cells.length with
            | false=>rfl
            | true=>exact absurd (Nat.le_of_ble_eq_true hb) hle
          rw [this];rfl
      | none =>
        simp only
        cases hc:y.cells[c]? with
        | none=>rfl
        | some q =>
          simp only
          obtain ⟨u,La,Lu,Lb,hu,hL',hru,_,_⟩:=h9.cell hc h7
          have hcl:c<y.cells.length:=(List.getElem?_eq_some_iff.1 hc).1
          cases hq1:q.oneCell with
          | false=>rfl
          | true =>
            simp only [cond_true]
            have hu1:=oneCell_cells (rep_oneCell (fun a v hw h=>hA1 a v hw (below_le h)) hru hq1)
            have hp1:=oneCell_pv hq1
            refine ⟨rfl,a,row,u,hv,by rw [had];rfl,by rw [had];exact hL _ h1,by rw [had];exact h3.any,?_,⟨?_,?_⟩,?_⟩
            · rw [had,freeze_len,hp1.1,hu1.1]
              have:=h6 c 1 (by omega)
              simp only [cellOf,List.length_singleton]
              rw [this]
              have:c<ux.cells.toList.length:=by simpa [h8] using hcl
              rw [List.drop_eq_getElem_cons this]
              have:ux.cells.toList[c]=u:=by rw [List.getElem?_eq_getElem this] at hu;simpa using hu
              simp [this]
            · rw [freeze_len,hp1.1,hu1.1];rfl
            · rw [freeze_isAgg,hp1.2,hu1.2]
            · exact (rep_freeze hΦ q u Lu (fun b hb=>hL b (h4 b (by rw [hL'];simp [hb]))) hru).mono Same.refl hbel (by simp)
end
theorem value_ext {u u':Value} (h:u.cells.toList=u'.cells.toList) (ha:vAgg u=vAgg u'):u=u':=by
  have hc:u.cells=u'.cells:=by
    have:=congrArg List.toArray h
    simpa using this
  cases hu:vAgg u with
  | true =>
    rw [hu] at ha
    cases u<;>simp [vAgg] at hu
    cases u'<;>simp [vAgg] at ha
    exact congrArg Value.agg hc
  | false =>
    rw [hu] at ha
    have h1:u.cells=#[u]:=by cases u<;>first | rfl | simp [vAgg] at hu
    have h2:u'.cells=#[u']:=by cases u'<;>first | rfl | simp [vAgg] at ha
    rw [h1,h2] at hc
    simpa using hc
theorem flat_inj {sz:Nat}:∀ {us us':List Value},(∀ u∈us,u.cells.size=sz)→(∀ u∈us',u.cells.size=sz)→us.map vAgg=us'.map vAgg→flat us=flat us'→us=us'
  | [],[],_,_,_,_=>rfl
  | [],_::_,_,_,h,_=>by simp at h
  | _::_,[],_,_,h,_=>by simp at h
  | u :: us,u'::us',h1,h2,ha,hf=>by
    simp only [List.map_cons,List.cons.injEq] at ha
    rw [flat_cons,flat_cons] at hf
    have hl:u.cells.toList.length=u'.cells.toList.length:=by
      have:=h1 u (by simp);have:=h2 u' (by simp);simp;omega
    obtain ⟨h3,h4⟩:=List.append_inj hf hl
    rw [value_ext h3 ha.1,flat_inj (fun u hu=>h1 u (by simp [hu])) (fun u hu=>h2 u (by simp [hu])) ha.2 h4]
section
variable {w:World} {Φ Φ':Nat→Prop}
theorem RowAt.uniq {b:Nat} {c c':Array Value} (h:RowAt w b c) (h':RowAt w b c'):c=c':=by
  obtain ⟨e,h⟩:=h;obtain ⟨e',h'⟩:=h'
  rw [h] at h';cases h';rfl
mutual
theorem Rep.uniq {A A':Al}:∀ (p:PV) (v:Value) (L L':List Nat),Rep w Φ A p v L→Rep w Φ' A' p v L'→L=L'
  | .own sz xs,v,L,L',h,h'=>by
    obtain ⟨h1,h2,h3⟩ | ⟨a,n,c,us,M,rfl,h1,h2,h3,h4,h5,h6,h7,h8,h9⟩:=h
    · obtain ⟨_,g2,_⟩ | ⟨a,n,c,us,M,rfl,g1,_⟩:=h'
      · rw [h2,g2]
      · rw [h3] at g1;cases g1
    · obtain ⟨_,_,g3⟩ | ⟨a',n',c',us',M',rfl,g1,g2,g3,g4,g5,g6,g7,g8,g9⟩:=h'
      · rw [h1] at g3;cases g3
      · rw [h1] at g1;cases g1
        have:=h4.uniq g4;subst this
        have:us=us':=flat_inj h7.1 g7.1 (h7.2.trans g7.2.symm) (h8.symm.trans g8)
        subst this
        rw [Reps.uniq xs us M M' h9 g9]
  | .box q,v,L,L',h,h'=>by
    obtain ⟨a,c,u,M,rfl,h1,h2,h4,h5,h6,h7⟩:=h
    obtain ⟨a',c',u',M',rfl,g1,g2,g4,g5,g6,g7⟩:=h'
    rw [h1] at g1;cases g1
    have:=h4.uniq g4;subst this
    have:u=u':=value_ext (h5.symm.trans g5) (h6.2.trans g6.2.symm)
    subst this
    rw [Rep.uniq q u M M' h7 g7]
  | .omap es,v,L,L',h,h'=>by
    obtain ⟨b,ents,rfl,h1,h3,h4⟩:=h
    obtain ⟨b',ents',rfl,g1,g3,g4⟩:=h'
    rw [h1] at g1;cases g1;rfl
  | .agg cs,v,L,L',h,h'=>by
    obtain ⟨vs,rfl,h⟩:=h
    obtain ⟨vs',g1,h'⟩:=h'
    cases g1;exact Reps.uniq cs _ L L' h h'
  | .tup cs,v,L,L',h,h'=>by
    obtain ⟨vs,rfl,h⟩:=h
    obtain ⟨vs',g1,h'⟩:=h'
    cases g1;exact Reps.uniq cs _ L L' h h'
  | .lock q,v,L,L',h,h'=>Rep.uniq q v L L' h h'
  | .bad,_,_,_,h,h'=>by rw [show _=_ from h,show _=_ from h']
  | .und,_,_,_,h,h'=>by rw [h.2,h'.2]
  | .int ..,_,_,_,h,h'=>by rw [h.2,h'.2]
  | .bool _,_,_,_,h,h'=>by rw [h.2,h'.2]
  | .nilp,_,_,_,h,h'=>by rw [h.2,h'.2]
  | .nilf,_,_,_,h,h'=>by rw [h.2,h'.2]
  | .nilm,_,_,_,h,h'=>by rw [h.2,h'.2]
  | .nils _,_,_,_,h,h'=>by rw [h.2,h'.2]
  | .sl xs,_,_,_,h,h'=>by rw [h.1,h'.1]
  | .ref q,_,_,_,h,h'=>by rw [h.1,h'.1]
  | .map es,_,_,_,h,h'=>by rw [h.1,h'.1]
  | .func _ _ _,_,_,_,h,h'=>by rw [h.1,h'.1]
  | .addr ..,_,_,_,h,h'=>by rw [h.1,h'.1]
  | .bor ..,_,_,_,h,h'=>by rw [h.1,h'.1]
  | .bsl ..,_,_,_,h,h'=>by rw [h.1,h'.1]
  | .bmap ..,_,_,_,h,h'=>by rw [h.1,h'.1]
  | .yld _,_,_,_,h,h'=>by rw [h.1,h'.1]
  | .log ..,_,_,_,h,h'=>by rw [h.1,h'.1]
theorem Reps.uniq {A A':Al}:∀ (ps:List PV) (vs:List Value) (L L':List Nat),Reps w Φ A ps vs L→Reps w Φ' A' ps vs L'→L=L'
  | [],_,_,_,h,h'=>by rw [h.2,h'.2]
  | p::ps,vs,L,L',h,h'=>by
    obtain ⟨v,vs',L1,L2,rfl,rfl,h1,h2⟩:=h
    obtain ⟨v',vs'',M1,M2,g0,rfl,g1,g2⟩:=h'
    cases g0
    rw [Rep.uniq p v L1 M1 h1 g1,Reps.uniq ps vs' L2 M2 h2 g2]
end
end
theorem inlineSl_rep {w:World} {Φ Φ':Nat→Prop} {A A':Al} (hΦ:∀ b,Φ b→Φ' b) {x:PV} {xv:Value} {Lx:List Nat} (hx:Rep w Φ A x xv Lx) (hL:∀ b∈Lx,Φ' b) {z lo n:Nat} {v:Value}
    (ha:∀ sz xs,x = .own sz xs→z=sz∧sliceIn v xv sz lo n):Rep w Φ' A' (inlineSl lo n x) v []:=by
  cases x<;>try rfl
  rename_i sz xs
  simp only [inlineSl]
  by_cases hle:lo+n≤xs.length
  · rw [Nat.ble_eq_true_of_le hle];simp only [cond_true]
    obtain ⟨_,hs⟩:=ha sz xs rfl
    obtain ⟨h1,h2,h3⟩ | ⟨a,m,c,us,M,rfl,h1,h2,h3,h4,h5,h6,h7,h8,h9⟩:=hx
    · subst h1;subst h3
      have hn:n=0:=by simp at hle;omega
      subst hn
      refine ⟨rfl,.inl ⟨by simp [freezes],none,0,hs.1⟩⟩
    · subst h1
      obtain ⟨rfl,hcap⟩:=hs
      have hul:us.length=xs.length:=by have:=congrArg List.length h7.2;simpa using this
      by_cases hn:n=0
      · subst hn;exact ⟨rfl,.inl ⟨by simp [freezes],_,_,rfl⟩⟩
      · refine ⟨rfl,.inr ⟨cellOf a (lo*sz),m-lo,c,(us.drop lo).take n,sz,?_,rfl,?_,hL _ (by simp [cellOf]),h4.any,?_,⟨?_,?_⟩,?_,?_⟩⟩
        · rw [freezes_length,show ((xs.drop lo).take n).length=n by simp;omega]
        · rw [freezes_length];simp;omega
        · intro y hy
          rw [freezes_eq] at hy
          obtain ⟨y,hy',rfl⟩:=List.mem_map.1 hy
          rw [freeze_len];exact h6 y (List.mem_of_mem_drop (List.mem_of_mem_take hy'))
        · intro u hu;exact h7.1 u (List.mem_of_mem_drop (List.mem_of_mem_take hu))
        · rw [freezes_isAgg];exact Reps.map_isAgg h7.2 lo n
        · rw [freezes_length,show ((xs.drop lo).take n).length=n by simp;omega]
          exact seg_flat h7.1 hul h8 (by omega)
        · have e:freezes ((xs.drop lo).take n)=((freezes xs).drop lo).take n:=by rw [freezes_eq,freezes_eq,List.map_take,List.map_drop]
          rw [e]
          exact reps_part_nil (reps_freeze hΦ xs us M (fun b hb=>hL b (by simp [hb])) h9) lo n
  · have:Nat.ble (lo+n) xs.length=false:=by
      cases hb:Nat.ble (lo+n) xs.length with
      | false=>rfl
      | true=>exact absurd (Nat.le_of_ble_eq_true hb) hle
    rw [this];rfl
theorem inlineMap_rep {w:World} {Φ Φ':Nat→Prop} {A A':Al} (hΦ:∀ b,Φ b→Φ' b) {x:PV} {xv:Value} {Lx:List Nat} (hx:Rep w Φ A x xv Lx) (hL:∀ b∈Lx,Φ' b) {v:Value}
    (ha:∀ es,x = .omap es→v=xv):Rep w Φ' A' (inlineMap x) v []:=by
  cases x<;>try rfl
  rename_i es
  obtain ⟨b,ents,rfl,h1,h3,h4⟩:=hx
  refine ⟨rfl,b,ents,(ha es rfl).trans h1,hL _ (by simp),h3,RepM.same (fun b hb=>⟨hΦ b hb,rfl⟩) es _ _ h4⟩
section
variable {w:World} {Φ Φ':Nat→Prop}
mutual
theorem Rep.ways {A A':Al}:∀ (p:PV) (v:Value) (L:List Nat),(∀ a v,a.isWay=true→(∀ x∈a.ways,x∈p.ways)→A a v→A' a v)→Rep w Φ A p v L→Rep w Φ A' p v L
  | .bad,_,_,_,h=>h
  | .und,_,_,_,h=>h
  | .int ..,_,_,_,h=>h
  | .bool _,_,_,_,h=>h
  | .nilp,_,_,_,h=>h
  | .nilf,_,_,_,h=>h
  | .nilm,_,_,_,h=>h
  | .nils _,_,_,_,h=>h
  | .agg cs,v,L,hA,h=>by
    obtain ⟨vs,rfl,h⟩:=h
    exact ⟨vs,rfl,Reps.ways cs _ L (fun a v hw hx ha=>hA a v hw hx ha) h⟩
  | .tup cs,v,L,hA,h=>by
    obtain ⟨vs,rfl,h⟩:=h
    exact ⟨vs,rfl,Reps.ways cs _ L (fun a v hw hx ha=>hA a v hw hx ha) h⟩
  | .sl xs,_,_,_,h=>h
  | .own sz xs,_,_,_,h=>h
  | .ref q,v,L,hA,h=>by
    obtain ⟨rfl,a,c,u,h1,h2,h3,h4,h5,h6,h7⟩:=h
    exact ⟨rfl,a,c,u,h1,h2,h3,h4,h5,h6,Rep.ways q u [] (fun a v hw hx ha=>hA a v hw hx ha) h7⟩
  | .box q,v,L,hA,h=>by
    obtain ⟨a,c,u,L',h0,h1,h2,h4,h5,h6,h7⟩:=h
    exact ⟨a,c,u,L',h0,h1,h2,h4,h5,h6,Rep.ways q u L' (fun a v hw hx ha=>hA a v hw hx ha) h7⟩
  | .map es,_,_,_,h=>h
  | .omap es,_,_,_,h=>h
  | .func g a b,v,L,hA,h=>by
    obtain ⟨rfl,fs,cs,h1,h2,h3⟩:=h
    exact ⟨rfl,fs,cs,h1,Reps.ways a _ [] (fun x v hw hx ha=>hA x v hw (fun y hy=>List.mem_append.2 (.inl (hx y hy))) ha) h2,Reps.ways b _ [] (fun x v hw hx ha=>hA x v hw (fun y hy=>List.mem_append.2 (.inr (hx y hy))) ha) h3⟩
  | .addr ..,v,L,hA,h=>⟨h.1,hA _ _ rfl (fun _ h=>h) h.2⟩
  | .bor ..,v,L,hA,h=>⟨h.1,hA _ _ rfl (fun _ h=>h) h.2⟩
  | .bsl ..,v,L,hA,h=>⟨h.1,hA _ _ rfl (fun _ h=>h) h.2⟩
  | .bmap ..,v,L,hA,h=>⟨h.1,hA _ _ rfl (fun _ h=>h) h.2⟩
  | .lock q,v,L,hA,h=>Rep.ways q v L (fun a v hw hx ha=>hA a v hw hx ha) h
  | .yld _,v,L,hA,h=>h
  | .log ..,v,L,hA,h=>⟨h.1,hA _ _ rfl (fun _ h=>h) h.2⟩
theorem Reps.ways {A A':Al}:∀ (ps:List PV) (vs:List Value) (L:List Nat),(∀ a v,a.isWay=true→(∀ x∈a.ways,x∈wayss ps)→A a v→A' a v)→Reps w Φ A ps vs L→Reps w Φ A' ps vs L
  | [],_,_,_,h=>h
  | p::ps,vs,L,hA,h=>by
    obtain ⟨v,vs',L1,L2,h0,h1,h2,h3⟩:=h
    exact ⟨v,vs',L1,L2,h0,h1,Rep.ways p v L1 (fun a v hw hx ha=>hA a v hw (fun y hy=>List.mem_append.2 (.inl (hx y hy))) ha) h2,Reps.ways ps vs' L2 (fun a v hw hx ha=>hA a v hw (fun y hy=>List.mem_append.2 (.inr (hx y hy))) ha) h3⟩
end
mutual
theorem ways_freeze:∀ p:PV,∀ x∈(freeze p).ways,x∈p.ways
  | .agg cs,x,h=>wayss_freezes cs x h
  | .box q,x,h=>ways_freeze q x h
  | .own ..,x,h=>by cases h
  | .omap _,x,h=>by cases h
  | .tup _,x,h=>by cases h
  | .lock _,x,h=>by cases h
  | .bad,_,h=>h
  | .und,_,h=>h
  | .int ..,_,h=>h
  | .bool _,_,h=>h
  | .nilp,_,h=>h
  | .nilf,_,h=>h
  | .nilm,_,h=>h
  | .nils _,_,h=>h
  | .sl _,_,h=>h
  | .ref _,_,h=>h
  | .map _,_,h=>h
  | .func ..,_,h=>h
  | .addr ..,_,h=>h
  | .bor ..,_,h=>h
  | .bsl ..,_,h=>h
  | .bmap ..,_,h=>h
  | .yld _,_,h=>h
  | .log ..,_,h=>h
theorem wayss_freezes:∀ ps:List PV,∀ x∈wayss (freezes ps),x∈wayss ps
  | [],_,h=>h
  | p::ps,x,h=>by
    simp only [freezes,wayss,List.mem_append] at h ⊢
    rcases h with h | h
    · exact .inl (ways_freeze p x h)
    · exact .inr (wayss_freezes ps x h)
end
theorem freeze_oneCell (p:PV):(freeze p).oneCell=p.oneCell:=by cases p<;>rfl
theorem chunks_length (ag:Bool) (sz:Nat):∀ (m:Nat) (cs:List PV),(chunks ag sz m cs).length=m
  | 0,_=>rfl
  | m+1,cs=>by simp [chunks,chunks_length ag sz m]
theorem chunks_rep {A:Al} (hA:∀ a v,a.isWay=true→A a v→v.oneCell'=true) {ag:Bool} {sz:Nat}:∀ (m:Nat) (ps:List PV) (us:List Value),ps.length=m*sz→(ag=false→sz=1∧∀ q∈ps,q.oneCell=true)→Reps w Φ A ps us [] →
    ∃ us',Reps w Φ A (chunks ag sz m ps) us' []∧flat us'=us∧(∀ u∈us',u.cells.size=sz)∧us'.map vAgg=(chunks ag sz m ps).map PV.isAgg∧∀ x∈chunks ag sz m ps,x.cells.length=sz
  | 0,ps,us,hl,_,h=>by
    have:ps=[]:=List.eq_nil_of_length_eq_zero (by simpa using hl)
    subst this
    exact ⟨[],⟨rfl,rfl⟩,by rw [h.1];rfl,by simp,rfl,by simp [chunks]⟩
  | m + 1,ps,us,hl,ho,h=>by
    have hul:=h.length
    rw [Nat.succ_mul] at hl
    have h1:Reps w Φ A (ps.take sz) (us.take sz) []:=by simpa using reps_part_nil h 0 sz
    have h2:Reps w Φ A (ps.drop sz) (us.drop sz) []:=by
      have:=reps_part_nil h sz (ps.length-sz)
      rwa [List.take_of_length_le (by simp),List.take_of_length_le (by simp;omega)] at this
    obtain ⟨us',h3,h4,h5,h6,h7⟩:=chunks_rep hA (ag:=ag) (sz:=sz) m (ps.drop sz) (us.drop sz) (by simp;omega) (fun hag=>⟨(ho hag).1,fun q hq=>(ho hag).2 q (List.mem_of_mem_drop hq)⟩) h2
    cases ag with
    | true =>
      refine ⟨.agg (us.take sz).toArray::us',⟨_,us',[],[],rfl,rfl,⟨_,rfl,by simpa using h1⟩,h3⟩,?_,?_,?_,?_⟩
      · rw [flat_cons,h4];simp [Value.cells]
      · intro u hu
        rcases List.mem_cons.1 hu with rfl | hu
        · simp [Value.cells];omega
        · exact h5 u hu
      · simp only [chunks,cond_true,List.map_cons,h6];rfl
      · intro x hx
        simp only [chunks,cond_true] at hx
        rcases List.mem_cons.1 hx with rfl | hx
        · simp [PV.cells];omega
        · exact h7 x hx
    | false =>
      obtain ⟨hs1,hone⟩:=ho rfl
      subst hs1
      match ps,us,h,hone,hl with
      | p :: ps,us,h,hone,hl =>
        obtain ⟨v,vs',L1,L2,rfl,hL,g1,g2⟩:=h
        obtain ⟨rfl,rfl⟩:L1=[]∧L2=[]:=by simpa using hL.symm
        have hp:=hone p (by simp)
        have k1:=oneCell_cells (rep_oneCell hA g1 hp)
        have k2:=oneCell_pv hp
        refine ⟨v::us',⟨v,us',[],[],rfl,rfl,g1,h3⟩,?_,?_,?_,?_⟩
        · rw [flat_cons,h4,k1.1];simp
        · intro u hu
          rcases List.mem_cons.1 hu with rfl | hu
          · rw [k1.1];rfl
          · exact h5 u hu
        · simp only [chunks,cond_false,List.headD_cons,List.map_cons,k1.2,k2.2]
          congr 1
        · intro x hx
          simp only [chunks,cond_false,List.headD_cons] at hx
          rcases List.mem_cons.1 hx with rfl | hx
          · rw [k2.1];rfl
          · exact h7 x hx
end
section
variable {w:World} {Φ Φ':Nat→Prop} {rv:Nat→Value} {E E':Nat→PV} {A:Al}
theorem part_blocks {ps:List PV} {us:List Value} {Lx:List Nat} (h:Reps w Φ A ps us Lx) (c n:Nat):∃ Ly,(∀ b∈Ly,b∈Lx)∧Reps w Φ A ((ps.drop c).take n) ((us.drop c).take n) Ly:=by
  induction ps generalizing us Lx c n with
  | nil=>rw [h.1];exact ⟨[],by simp,by simp [Reps]⟩
  | cons p ps ih =>
    obtain ⟨v,vs',L1,L2,rfl,rfl,g1,g2⟩:=h
    cases c with
    | succ c=>obtain ⟨Ly,h1,h2⟩:=ih g2 c n;exact ⟨Ly,fun b hb=>by simp [h1 b hb],by simpa using h2⟩
    | zero =>
      cases n with
      | zero=>exact ⟨[],by simp,by simp [Reps]⟩
      | succ n =>
        obtain ⟨Ly,h1,h2⟩:=ih g2 0 n
        exact ⟨L1++Ly,fun b hb=>by rcases List.mem_append.1 hb with h | h;simp [h];simp [h1 b h],v,_,L1,Ly,rfl,rfl,g1,by simpa using h2⟩
end
section
variable {w:World} {Φ Φ':Nat→Prop} {rv:Nat→Value} {E E':Nat→PV}
theorem al_log {a:PV} {v:Value} (hw:a.isWay=true) (h:AlOf w rv E a v):a.ways≠[]:=by
  cases a<;>first | (cases hw;done) | exact h.elim | simp [PV.ways]
theorem inlineBsl_rep {A A':Al} (hA1:∀ a v,a.isWay=true→A a v→a.ways≠[]) (hΦ:∀ b,Φ b→Φ' b) {x:PV} {xv:Value} {Li:List Nat} (hxr:Rep w Φ A x xv Li) (hc1:∀ b∈Li,Φ' b) {i c sz m cap:Nat} {ag:Bool} {v:Value} {ad:Addr}
    (hv:v = .slice (some ad) m cap) (hcap:m≤cap) (hn:∀ a',addrIn xv x i c=some a'→ad=a'):Rep w Φ' A' (inlineBsl i c sz ag m x) v []:=by
  simp only [inlineBsl]
  cases hh:hcells x with
  | none=>rfl
  | some xs =>
    simp only
    cases hi:xs[i]? with
    | none=>rfl
    | some y =>
      simp only
      cases hc:(chunksOk ag sz m ((y.cells.drop c).take (m*sz))&&(wayss y.cells).isEmpty) with
      | false=>rfl
      | true =>
        simp only [cond_true]
        simp only [Bool.and_eq_true,chunksOk] at hc
        obtain ⟨⟨hcl,hco⟩,hcw⟩:=hc
        have hcl:=Nat.eq_of_beq_eq_true hcl
        obtain ⟨ux,row,ad0,Lx,k1,k2,k3,k4,k5,k6,k7,k8,k9⟩:=node_row hxr hh hi
        have had:=hn _ (k5 c)
        subst had
        have k9':=k9.mono (A':=A) Same.refl (fun _ _ _ h=>below_le h) (fun _ _=>rfl)
        have hcells:=k9'.cellsAll k7
        have hcells0:Reps w Φ noAl y.cells ux.cells.toList Lx:=hcells.ways _ _ _ fun a v hw hx ha=>by
          have h0:wayss y.cells=[]:=by simpa using hcw
          rw [h0] at hx
          have h1:=hA1 a v hw ha
          cases hay:a.ways with
          | nil=>exact absurd hay h1
          | cons z zs=>have:=hx z (by rw [hay];simp);cases this
        obtain ⟨Ly,hly,hry⟩:=part_blocks hcells0 c (m*sz)
        have hfr:=reps_freeze hΦ _ _ Ly (fun b hb=>hc1 b (k4 b (hly b hb))) hry
        obtain ⟨us',q1,q2,q3,q4,q5⟩:=chunks_rep (ag:=ag) (sz:=sz) (fun a v _ h=>h.elim) m _ _ (by rw [freezes_length];exact hcl) (fun hag=>by
          simp only [hag,Bool.false_or,Bool.and_eq_true] at hco
          refine ⟨Nat.eq_of_beq_eq_true hco.1,fun q hq=>?_⟩
          rw [freezes_eq] at hq
          obtain ⟨q0,hq0,rfl⟩:=List.mem_map.1 hq
          rw [freeze_oneCell];exact List.all_eq_true.1 hco.2 q0 hq0) hfr
        have hcl2:(chunks ag sz m (freezes ((y.cells.drop c).take (m*sz)))).length=m:=chunks_length _ _ _ _
        by_cases hm:m=0
        · subst hm;exact ⟨rfl,.inl ⟨rfl,_,_,hv⟩⟩
        · refine ⟨rfl,.inr ⟨cellOf ad0 c,cap,row,us',sz,by rw [hcl2];exact hv,rfl,by rw [hcl2];exact hcap,hc1 _ k1,k3.any,q5,⟨q3,q4⟩,?_,q1⟩⟩
          rw [hcl2,q2]
          by_cases hms:m*sz=0
          · rw [hms];simp [seg]
          · have:c+m*sz≤y.cells.length:=by simp at hcl;omega
            exact k6 c (m*sz) this
end
theorem inl_tame (r:Nat) (pre:Path) (q:PV):Tame (inl r pre q):=by
  have h1 : ∀ i c sh x,(inlineAt i c sh x).isAgg=false∧(inlineAt i c sh x).dull=true:=by
    intro i c sh x
    simp only [inlineAt]
    split
    · split
      · split
        · cases (Nat.ble _ _&&PV.isAgg _)<;>exact ⟨rfl,rfl⟩
        · split
          · rename_i q _;cases q.oneCell<;>exact ⟨rfl,rfl⟩
          · exact ⟨rfl,rfl⟩
      · exact ⟨rfl,rfl⟩
    · exact ⟨rfl,rfl⟩
  have h2:∀ lo n x,(inlineSl lo n x).isAgg=false∧(inlineSl lo n x).dull=true:=by
    intro lo n x
    cases x<;>try exact ⟨rfl,rfl⟩
    simp only [inlineSl];cases Nat.ble _ _<;>exact ⟨rfl,rfl⟩
  have h5:∀ i c sz ag m x,(inlineBsl i c sz ag m x).isAgg=false∧(inlineBsl i c sz ag m x).dull=true:=by
    intro i c sz ag m x
    simp only [inlineBsl]
    split
    · split
      · cases (chunksOk ag sz m _&&_)<;>exact ⟨rfl,rfl⟩
      · exact ⟨rfl,rfl⟩
    · exact ⟨rfl,rfl⟩
  have h3:∀ x,(inlineMap x).isAgg=false∧(inlineMap x).dull=true:=by intro x;cases x<;>exact ⟨rfl,rfl⟩
  have h4:∀ (o:Option PV) (f:PV→PV),(∀ x,(f x).isAgg=false∧(f x).dull=true)→(atNode o f).isAgg=false∧(atNode o f).dull=true:=by
    intro o f hf;cases o with
    | none=>exact ⟨rfl,rfl⟩
    | some x=>exact hf x
  constructor
  · intro p
    cases p<;>try rfl
    all_goals
      rename_i a b
      simp only [inl]
      cases isUnder r pre _ _<;>first | rfl | exact (h4 _ _ (h1 _ _ _)).1 | exact (h4 _ _ (h2 _ _)).1 | exact (h4 _ _ h3).1 | exact (h4 _ _ (h5 _ _ _ _ _)).1
  · intro p hp
    cases p<;>first | (cases hp;done) | skip
    all_goals
      first | rfl | skip
    all_goals
      simp only [inl]
      cases isUnder r pre _ _<;>first | rfl | exact (h4 _ _ (h1 _ _ _)).2 | exact (h4 _ _ (h2 _ _)).2 | exact (h4 _ _ h3).2 | exact (h4 _ _ (h5 _ _ _ _ _)).2
theorem getNode_follow {w:World} {Φ:Nat→Prop} {A:Al} {p:PV} {v:Value} {L:List Nat} (h:Rep w Φ A p v L) {pre:Path} {q:PV} (hq:getNode p pre=some q) :
    ∃ nv Li,follow w v p pre=some (nv,q)∧(∀ b∈Li,b∈L)∧Rep w Φ (alOn A p pre) q nv Li:=by
  obtain ⟨nv,La,Li,Lb,h1,h2,h3,_⟩:=Rep.zip pre h hq
  exact ⟨nv,Li,h1,fun b hb=>by rw [h2];simp [hb],h3⟩
theorem isUnder_iff {r r':Nat} {pre q:Path}:isUnder r pre r' q=true↔r'=r∧∃ rest,q=pre++rest:=by
  simp only [isUnder,Bool.and_eq_true,List.isPrefixOf_iff_prefix]
  constructor
  · rintro ⟨h1,rest,h2⟩;exact ⟨Nat.eq_of_beq_eq_true h1,rest,h2.symm⟩
  · rintro ⟨rfl,rest,h2⟩;exact ⟨Nat.beq_refl _,rest,h2.symm⟩
section
variable {w w0:World} {U Φ0 Φ:Nat→Prop} {rv:Nat→Value} {E:Nat→PV} {L:Nat→List Nat}
theorem Conf.ice (h:Conf w0 U Φ0 w Φ rv E L) (M:Nat→Bool) {r:Nat} (hr:r<ghost) {pre:Path} {q root':PV} (hlock:(E r).unlock=E r) (hn:getNode (E r) pre=some q)
    (hm:modNode (fun _=>some (freeze q)) (E r) pre=some root') (hlk:root'.unlock=root') :
    ∃ nv Li L',follow w (rv r) (E r) pre=some (nv,q)∧Rep w Φ (alOn (AlOf w rv E) (E r) pre) q nv Li∧(∀ s,s≠r→L' s=L s) ∧
      Conf w0 U Φ0 w (fun b=>Φ b∨b∈Li) rv (fun s=>if s<ghost∨M s=true then (if s=r then root' else E s).mapW (inl r pre q) else E s) L':=by
  obtain ⟨nv,La,Li,Lb,hfo,hL,hrep,hzip,hfol⟩:=Rep.zip pre (h.rep r) hn
  have hΦ:∀ b,Φ b→Φ b∨b∈Li:=fun b hb => .inl hb
  have htame:=inl_tame r pre q
  have hnd:=h.nodup r
  rw [hL] at hnd
  simp only [List.nodup_append] at hnd
  have hdis:∀ b∈Li,b∉La++Lb:=by
    intro b hb hb2
    rcases List.mem_append.1 hb2 with h2 | h2
    · exact hnd.1.2.2 b h2 b hb rfl
    · exact hnd.2.2 b (by simp [hb]) b h2 rfl
  have hK:∀ a u,AlOf w rv E a u→AlOf w rv (fun s=>if s<ghost∨M s=true then (if s=r then root' else E s).mapW (inl r pre q) else E s) a u:=by
    intro a u ha
    have hlt:=al_root ha
    refine ha.mono fun nv2 np2 hn2 hh=>?_
    simp only [hlt,true_or,if_true] at hn2
    rw [unlock_mapW htame] at hn2
    obtain ⟨np1,hn1,hl1⟩:=follow_mapW htame hn2 hh
    by_cases hra:(rootOf a).1=r
    · rw [hra] at hn1 ⊢
      simp only [if_true,hlk] at hn1
      rcases hfol w (freeze q) root' (fun _ _=>rfl) (fun _=>freeze_isAgg q) hm _ nv2 np1 hn1 (alike_heavy0 hl1) with ⟨rest,_,h2⟩ | ⟨np0,h1,h2⟩
      · have:=freeze_light h2
        rw [alike_heavy0 hl1] at this;cases this
      · rw [hlock];exact ⟨np0,h1,h2.trans hl1⟩
    · simp only [hra,if_false] at hn1
      exact ⟨np1,hn1,hl1⟩
  have hw1:∀ a v,a.isWay=true→alOn (AlOf w rv E) (E r) pre a v→AlOf w rv (fun s=>if s<ghost∨M s=true then (if s=r then root' else E s).mapW (inl r pre q) else E s) a v:=fun a v _ ha=>hK a v (alOn_le ha)
  have hA : ∀ a u,a.isWay=true→AlOf w rv E a u→Rep w (fun b=>Φ b∨b∈Li) (AlOf w rv (fun s=>if s<ghost∨M s=true then (if s=r then root' else E s).mapW (inl r pre q) else E s)) (inl r pre q a) u []:=by
    intro a u haw ha
    have node:∀ rest x,getNode q rest=some x→∃ xv Lx,follow w (rv r) (E r).unlock (pre++rest)=some (xv,x)∧(∀ b∈Lx,b∈Li)∧Rep w Φ (alOn (alOn (AlOf w rv E) (E r) pre) q rest) x xv Lx:=by
      intro rest x hx
      obtain ⟨xv,Lx,h1,h2,h3⟩:=getNode_follow hrep hx
      exact ⟨xv,Lx,by rw [hlock,follow_append,hfo];exact h1,h2,h3⟩
    have ho1:∀ rest a v,a.isWay=true→alOn (alOn (AlOf w rv E) (E r) pre) q rest a v→v.oneCell'=true:=fun rest a v hw h=>al_oneCell hw (alOn_le (alOn_le h))
    cases a<;>first | (cases haw;done) | skip
    case addr r' p i c sh =>
      simp only [inl]
      cases hu:isUnder r pre r' p with
      | false=>exact ⟨rfl,hK _ _ ha⟩
      | true =>
        obtain ⟨rfl,rest,rfl⟩:=isUnder_iff.1 hu
        simp only [cond_true,List.drop_left]
        cases hg:getNode q rest with
        | none=>rfl
        | some x =>
          obtain ⟨xv,Lx,h1,h2,h3⟩:=node rest x hg
          obtain ⟨_,a',h4,h5,h6⟩:=ha
          exact inline_rep (ho1 rest) hΦ (fun a v hw h=>hw1 a v hw (alOn_le h)) h3 (fun b hb => .inr (h2 b hb)) h4 fun a'' ha''=>h6 xv x h1 a'' ha''
    case bor r' p z lo n =>
      simp only [inl]
      cases hu:isUnder r pre r' p with
      | false=>exact ⟨rfl,hK _ _ ha⟩
      | true =>
        obtain ⟨rfl,rest,rfl⟩:=isUnder_iff.1 hu
        simp only [cond_true,List.drop_left]
        cases hg:getNode q rest with
        | none=>rfl
        | some x =>
          obtain ⟨xv,Lx,h1,h2,h3⟩:=node rest x hg
          obtain ⟨_,_,h6⟩:=ha
          exact inlineSl_rep hΦ h3 (fun b hb => .inr (h2 b hb)) fun sz xs hx=>by
            subst hx
            obtain ⟨sz',xs',h7,h8,h9⟩:=h6 xv _ h1 rfl
            cases h7;exact ⟨h8,h9⟩
    case bsl r' p i c sz ag n =>
      simp only [inl]
      cases hu:isUnder r pre r' p with
      | false=>exact ⟨rfl,hK _ _ ha⟩
      | true =>
        obtain ⟨rfl,rest,rfl⟩:=isUnder_iff.1 hu
        simp only [cond_true,List.drop_left]
        cases hg:getNode q rest with
        | none=>rfl
        | some x =>
          obtain ⟨xv,Lx,h1,h2,h3⟩:=node rest x hg
          obtain ⟨_,a',cap,h4,hcap,h5,h6⟩:=ha
          exact inlineBsl_rep (fun a v hw h=>al_log hw (alOn_le (alOn_le h))) hΦ h3 (fun b hb => .inr (h2 b hb)) h4 hcap fun a'' ha''=>h6 xv x h1 a'' ha''
    case bmap r' p =>
      simp only [inl]
      cases hu:isUnder r pre r' p with
      | false=>exact ⟨rfl,hK _ _ ha⟩
      | true =>
        obtain ⟨rfl,rest,rfl⟩:=isUnder_iff.1 hu
        simp only [cond_true,List.drop_left]
        cases hg:getNode q rest with
        | none=>rfl
        | some x =>
          obtain ⟨xv,Lx,h1,h2,h3⟩:=node rest x hg
          obtain ⟨_,_,h6⟩:=ha
          exact inlineMap_rep hΦ h3 (fun b hb => .inr (h2 b hb)) fun es hx=>h6 xv x h1 es hx
    case log=>exact ha.elim
  have hs:Same w w Φ (fun b=>Φ b∨b∈Li):=fun b hb=>⟨.inl hb,rfl⟩
  have hsub:∀ b,b∈La++Lb→b∈L r:=fun b hb=>by rw [hL];simp at hb ⊢;rcases hb with h | h<;>simp [h]
  refine ⟨nv,Li,fun s=>if s=r then La++Lb else L s,hfo,hrep,fun s hs=>by simp [hs],?_,?_,?_,?_,?_,fun b hb => .inl (h.frz0 b hb),h.size,h.kept,h.os,h.tape,h.output⟩
  · intro s
    by_cases hsr:s=r
    · subst hsr
      simp only [if_true,hr,true_or]
      have h1:=hzip w (fun b=>Φ b∨b∈Li) (AlOf w rv E) (freeze q) [] root' (fun _ _ _ h=>h) hs (fun _ _=>rfl) (fun _=>freeze_isAgg q) (rep_freeze hΦ q nv Li (fun b hb => .inr hb) hrep) hm
      exact Rep.map htame.agg Same.refl hA _ _ _ (fun _ _=>rfl) (by simpa using h1)
    · by_cases hsg:s<ghost∨M s=true
      · simp only [hsr,hsg,if_false,if_true]
        exact Rep.map htame.agg hs hA _ _ _ (fun _ _=>rfl) (h.rep s)
      · simp only [hsr,hsg,if_false]
        exact (h.rep s).mono hs (fun a u _ ha=>hK a u ha) (fun _ _=>rfl)
  · intro s
    by_cases hsr:s=r
    · subst hsr
      simp only [if_true,List.nodup_append]
      exact ⟨hnd.1.1,hnd.2.1,fun a ha b hb e=>hnd.2.2 a (by simp [ha]) b hb e⟩
    · simp only [hsr,if_false];exact h.nodup s
  · intro s s' hne b hb hb'
    by_cases hsr:s=r
    · subst hsr
      simp only [if_true] at hb
      rw [if_neg (Ne.symm hne)] at hb'
      exact h.disj s s' hne b (hsub b hb) hb'
    · rw [if_neg hsr] at hb
      by_cases hsr':s'=r
      · subst hsr'
        simp only [if_true] at hb'
        exact h.disj s s' hne b hb (hsub b hb')
      · rw [if_neg hsr'] at hb';exact h.disj s s' hne b hb hb'
  · intro s b hb
    have hbL:∃ t,b∈L t∧b∉Li:=by
      by_cases hsr:s=r
      · subst hsr
        simp only [if_true] at hb
        exact ⟨s,hsub b hb,fun hbi=>hdis b hbi hb⟩
      · rw [if_neg hsr] at hb
        exact ⟨s,hb,fun hbi=>h.disj s r hsr b hb (by rw [hL];simp [hbi])⟩
    obtain ⟨t,h1,h2⟩:=hbL
    obtain ⟨h3,h4,h5⟩:=h.own t b h1
    exact ⟨h3,fun hp=>hp.elim h4 h2,h5⟩
  · intro b hb
    rcases hb with hb | hb
    · exact h.frz b hb
    · obtain ⟨h3,h4,h5⟩:=h.own r b (by rw [hL];simp [hb])
      exact ⟨h3,.inr h5⟩
end
end Go.Eng
namespace Go.Eng
open Go
theorem Env.get_set (e:Env) (s:Nat) (p:PV) (t:Nat):(e.set s p).get t=if t=s then p else e.get t:=by
  induction e with
  | nil =>
    simp only [Env.set,Env.get]
    by_cases h:t=s
    · subst h;simp
    · have:Nat.beq s t=false:=by
        cases hb:Nat.beq s t with
        | false=>rfl
        | true=>exact absurd (Nat.eq_of_beq_eq_true hb).symm h
      simp [this,h]
  | cons x e ih =>
    obtain ⟨k,v⟩:=x
    simp only [Env.set]
    cases hk:Nat.beq k s with
    | true =>
      have:=Nat.eq_of_beq_eq_true hk;subst this
      simp only [cond_true,Env.get]
      by_cases h:t=k
      · subst h;simp
      · have:Nat.beq k t=false:=by
          cases hb:Nat.beq k t with
          | false=>rfl
          | true=>exact absurd (Nat.eq_of_beq_eq_true hb).symm h
        simp [this,h]
    | false =>
      have hne:k≠s:=fun h=>by subst h;simp at hk
      simp only [cond_false]
      cases Nat.ble s k with
      | true =>
        simp only [cond_true,Env.get]
        by_cases h:t=s
        · subst h;simp
        · have:Nat.beq s t=false:=by
            cases hb:Nat.beq s t with
            | false=>rfl
            | true=>exact absurd (Nat.eq_of_beq_eq_true hb).symm h
          simp [this,h]
      | false =>
        simp only [cond_false,Env.get,ih]
        cases hb:Nat.beq k t with
        | true =>
          have:=Nat.eq_of_beq_eq_true hb;subst this
          simp [hne]
        | false=>rfl
theorem Env.get_map (e:Env) {g:PV→PV} (hg:g .bad = .bad) (s:Nat):Env.get (e.map fun x=>(x.1,g x.2)) s=g (e.get s):=by
  induction e with
  | nil=>simp [Env.get,hg]
  | cons x e ih =>
    obtain ⟨k,v⟩:=x
    simp only [List.map_cons,Env.get,ih]
    cases Nat.beq k s<;>rfl
theorem Env.get_kill (e:Env) (r:Nat) (pre:Path) (s:Nat):(e.kill r pre).get s=(e.get s).mapW (lose r pre):=Env.get_map e (g:=fun p=>p.mapW (lose r pre)) rfl s
theorem Env.get_killEx (e:Env) (r:Nat) (keep:List Path) (s:Nat):(e.killEx r keep).get s=(e.get s).mapW (loseEx r keep):=Env.get_map e (g:=fun p=>p.mapW (loseEx r keep)) rfl s
theorem Env.get_drop (e:Env) (l:List Nat) (s:Nat):(e.drop l).get s=if inDrop l s then .bad else e.get s:=by
  induction e with
  | nil=>simp [Env.drop,Env.get]
  | cons x e ih =>
    obtain ⟨k,v⟩:=x
    simp only [Env.drop] at ih ⊢
    simp only [List.filter_cons]
    by_cases hk:inDrop l k=true
    · simp only [hk,Bool.not_true,Bool.false_eq_true,if_false,ih,Env.get]
      cases hb:Nat.beq k s with
      | true=>have:=Nat.eq_of_beq_eq_true hb;subst this;simp [hk]
      | false=>rfl
    · simp only [hk,Bool.not_false,if_true,Env.get,ih]
      cases hb:Nat.beq k s with
      | true=>have:=Nat.eq_of_beq_eq_true hb;subst this;simp [hk]
      | false=>rfl
theorem Env.frz_eq {e e':Env} {r:Nat} {pre:Path} (h:e.frz r pre=some e') :
    ∃ q root,(e.get r).isLock=false∧getNode (e.get r) pre=some q∧modNode (fun _=>some (freeze q)) (e.get r) pre=some root∧∀ s,e'.get s=(if s=r then root else e.get s).mapW (inl r pre q):=by
  simp only [Env.frz] at h
  cases hl:(e.get r).isLock with
  | true=>rw [hl] at h;cases h
  | false =>
  rw [hl] at h;simp only [cond_false] at h
  cases hq:getNode (e.get r) pre with
  | none=>rw [hq] at h;cases h
  | some q =>
    rw [hq] at h;simp only at h
    cases hm:modNode (fun _=>some (freeze q)) (e.get r) pre with
    | none=>rw [hm] at h;cases h
    | some root =>
      rw [hm] at h;simp only [Option.some.injEq] at h
      subst h
      refine ⟨q,root,rfl,rfl,hm,fun s=>?_⟩
      rw [Env.get_map (e.set r root) (g:=fun p=>p.mapW (inl r pre q)) rfl s,Env.get_set]
structure Hid where
  val:Nat→Value
  ds:List Deferred
structure St (w0:World) (U Φ0:Nat→Prop) (nt:Nat) (hv:Hid) (a:Act) (w:World) (e:Env) (Φ:Nat→Prop) (rv:Nat→Value) (E:Nat→PV) (L:Nat→List Nat):Prop where
  conf:Conf w0 U Φ0 w Φ rv E L
  env:∀ s,s<ghost→E s=e.get s
  size:a.tmps.size=nt
  small:nt≤2000000
  tmps:∀ t,t<nt→a.tmps.getD t undef=rv t
  parts:∀ d ps i,d<nt→E d = .tup ps→i<ps.length→i<16∧∃ vs,rv d = .tuple vs∧vs[i]? = some (rv (vslot d i))
  hid:∀ s,hidBase≤s→s<outBase→rv s=hv.val s
  dfr:a.defers=hv.ds
def Fr (w0:World) (U Φ0:Nat→Prop) (nt:Nat) (hv:Hid) (a:Act) (w:World) (e:Env):Prop :=
  ∃ Φ rv E L,St w0 U Φ0 nt hv a w e Φ rv E L∧∀ g,ghost≤g→E g = .bad
def opdOk (nt:Nat):Operand→Bool
  | .tmp t=>Nat.blt t nt
  | _=>true
theorem blt_lt {a b:Nat} (h:Nat.blt a b=true):a<b:=Nat.le_of_ble_eq_true h
section
variable {w0 w:World} {U Φ0 Φ:Nat→Prop} {nt:Nat} {hv:Hid} {a:Act} {e e':Env} {rv rv':Nat→Value} {E E':Nat→PV} {L L':Nat→List Nat} {o:Oracle}
mutual
theorem light_nil {A:Al}:∀ (p:PV) (v:Value) (L:List Nat),p.heavy=false→Rep w Φ A p v L→L=[]
  | .own ..,_,_,hp,_=>by cases hp
  | .box _,_,_,hp,_=>by cases hp
  | .omap _,_,_,hp,_=>by cases hp
  | .lock _,_,_,hp,_=>by cases hp
  | .agg cs,_,_,hp,h=>by obtain ⟨vs,_,h⟩:=h;exact lights_nil cs _ _ hp h
  | .tup cs,_,_,hp,h=>by obtain ⟨vs,_,h⟩:=h;exact lights_nil cs _ _ hp h
  | .bad,_,_,_,h=>h
  | .und,_,_,_,h=>h.2
  | .int ..,_,_,_,h=>h.2
  | .bool _,_,_,_,h=>h.2
  | .nilp,_,_,_,h=>h.2
  | .nilf,_,_,_,h=>h.2
  | .nilm,_,_,_,h=>h.2
  | .nils _,_,_,_,h=>h.2
  | .sl xs,_,_,_,h=>h.1
  | .ref q,_,_,_,h=>h.1
  | .map es,_,_,_,h=>h.1
  | .func _ _ _,_,_,_,h=>h.1
  | .addr ..,_,_,_,h=>h.1
  | .bor ..,_,_,_,h=>h.1
  | .bsl ..,_,_,_,h=>h.1
  | .bmap ..,_,_,_,h=>h.1
  | .yld _,_,_,_,h=>h.1
  | .log ..,_,_,_,h=>h.1
theorem lights_nil {A:Al}:∀ (ps:List PV) (vs:List Value) (L:List Nat),heavys ps=false→Reps w Φ A ps vs L→L=[]
  | [],_,_,_,h=>h.2
  | p::ps,_,_,hp,h=>by
    simp only [heavys,Bool.or_eq_false_iff] at hp
    obtain ⟨v,vs',L1,L2,rfl,rfl,h1,h2⟩:=h
    rw [light_nil p v L1 hp.1 h1,lights_nil ps vs' L2 hp.2 h2];rfl
end
def Calm (E E':Nat→PV):Prop:=∀ d ps,d<2000000→E' d = .tup ps→∃ ps',E d = .tup ps'∧ps'.length=ps.length
theorem Calm.refl:Calm E E:=fun _ ps _ h=>⟨ps,h,rfl⟩
theorem mapWs_length {f:PV→PV}:∀ ps:List PV,(mapWs f ps).length=ps.length
  | []=>rfl
  | p::ps=>by simp [mapWs,mapWs_length ps]
theorem dull_tup {f:PV→PV} (hf:∀ p,p.isWay=true→(f p).isTup=false) {p:PV} {ps:List PV} (h:p.mapW f = .tup ps):∃ ps',p = .tup ps'∧ps'.length=ps.length:=by
  cases hp:p.isWay with
  | true=>rw [way_mapW hp] at h;have:=hf p hp;rw [h] at this;cases this
  | false =>
    cases p<;>first | (cases hp;done) | (simp [PV.mapW] at h;done) | skip
    simp only [PV.mapW,PV.tup.injEq] at h
    exact ⟨_,rfl,by rw [← h,mapWs_length]⟩
theorem lose_tup (r:Nat) (pre:Path) (p:PV) (hp:p.isWay=true):(lose r pre p).isTup=false:=by
  rcases lose_or r pre p with h | ⟨_,h⟩
  · rw [h];cases p<;>first | rfl | cases hp
  · rw [h];rfl
theorem St.turn (S:St w0 U Φ0 nt hv a w e Φ rv E L) {w':World} {Φ':Nat→Prop} (hc:Conf w0 U Φ0 w' Φ' rv' E' L') (he:∀ s,s<ghost→E' s=e'.get s) (hr:∀ s,s<ghost→rv' s=rv s) (hE:Calm E E') :
    St w0 U Φ0 nt hv a w' e' Φ' rv' E' L':=by
  have hs:=S.small
  refine ⟨hc,he,S.size,S.small,fun t ht=>?_,fun d ps i hd hp hi=>?_,fun s h1 h2=>?_,S.dfr⟩
  · rw [hr t (by simp only [ghost];omega)];exact S.tmps t ht
  · obtain ⟨ps',h1,h2⟩:=hE d ps (by omega) hp
    obtain ⟨h3,vs,h4,h5⟩:=S.parts d ps' i hd h1 (by omega)
    refine ⟨h3,vs,?_,?_⟩
    · rw [hr d (by simp only [ghost];omega)];exact h4
    · rw [hr _ (by simp only [vslot,ghost];omega)];exact h5
  · rw [hr s (by simp only [outBase,ghost] at *;omega)];exact S.hid s h1 h2
theorem const_rep {A:Al} (v:Value):Rep w Φ A (constPV v) v []:=by
  have key:∀ cs:List Value,Reps w Φ A (cs.map fun | .int k n=>PV.int k n | .bool b => .bool b | _ => .bad) cs []:=by
    intro cs
    induction cs with
    | nil=>exact ⟨rfl,rfl⟩
    | cons c cs ih =>
      refine ⟨c,cs,[],[],rfl,rfl,?_,ih⟩
      cases c<;>first | exact ⟨rfl,rfl⟩ | rfl
  cases v with
  | slice x n c =>
    cases x with
    | some x=>cases n<;>cases c<;>rfl
    | none=>cases n<;>cases c<;>first | exact ⟨rfl,rfl⟩ | rfl
  | pointer x=>cases x<;>first | exact ⟨rfl,rfl⟩ | rfl
  | map x=>cases x<;>first | exact ⟨rfl,rfl⟩ | rfl
  | agg cs=>exact ⟨cs,rfl,key _⟩
  | _=>first | exact ⟨rfl,rfl⟩ | rfl
theorem opd_ok (S:St w0 U Φ0 nt hv a w e Φ rv E L) {x:Operand} (hx:opdOk nt x=true) {k:PV→PM} (h:(opd x k).run o e=some e') :
    ∃ p,(k p).run o e=some e'∧Rep w Φ (AlOf w rv E) p (a.eval x) []:=by
  have hs:=S.small
  cases x with
  | tmp t =>
    have ht:=blt_lt hx
    have htg:(t:Nat)<ghost:=Nat.lt_of_lt_of_le ht (Nat.le_trans S.small (by decide))
    refine ⟨_,h,?_⟩
    have:=S.conf.view htg
    rw [S.env t htg] at this
    simp only [Act.eval]
    rw [S.tmps t ht];exact this
  | const v=>exact ⟨_,h,const_rep v⟩
  | func f=>exact ⟨_,h,rfl,#[],#[],rfl,⟨rfl,rfl⟩,⟨rfl,rfl⟩⟩
  | global g=>cases h
theorem opds_ok (S:St w0 U Φ0 nt hv a w e Φ rv E L):∀ {xs:List Operand},(∀ x∈xs,opdOk nt x=true)→∀ {k:List PV→PM},(opds xs k).run o e=some e' →
    ∃ ps,(k ps).run o e=some e'∧Reps w Φ (AlOf w rv E) ps (xs.map a.eval) []
  | [],_,k,h=>⟨[],h,rfl,rfl⟩
  | x::xs,hx,k,h=>by
    obtain ⟨p,h1,h2⟩:=opd_ok S (hx x (by simp)) h
    obtain ⟨ps,h3,h4⟩:=opds_ok S (fun y hy=>hx y (by simp [hy])) h1
    exact ⟨p::ps,h3,_,_,[],[],rfl,rfl,h2,h4⟩
def Held (g:Nat) (rv rv':Nat→Value) (E E':Nat→PV) (L L':Nat→List Nat):Prop:=∀ s,ghost≤s→s≠g→E' s=E s∧rv' s=rv s∧L' s=L s
theorem St.hold (S:St w0 U Φ0 nt hv a w e Φ rv E L) {g:Nat} (hg:ghost≤g) {p:PV} {v:Value} (hr:Rep w Φ (AlOf w rv E) p v []):St w0 U Φ0 nt hv a w e Φ (upd rv g v) (upd E g p) (upd L g []):=by
  refine S.turn (S.conf.hold hg hr) (fun s hs=>?_) (fun s hs=>upd_ne (by omega)) fun d ps hd hp=>?_
  · rw [upd_ne (by omega)];exact S.env s hs
  · rw [upd_ne (by simp only [ghost] at hg;omega)] at hp;exact ⟨ps,hp,rfl⟩
theorem opdT_ok (S:St w0 U Φ0 nt hv a w e Φ rv E L) {x:Operand} (hx:opdOk nt x=true) {g:Nat} (hg:ghost≤g) {k:PV→PM} (h:(opdT x k).run o e=some e') :
    ∃ e1 rv1 E1 L1,(k (E1 g)).run o e1=some e'∧St w0 U Φ0 nt hv a w e1 Φ rv1 E1 L1∧rv1 g=a.eval x∧Held g rv rv1 E E1 L L1:=by
  have hsm:=S.small
  have light:∀ p,(k p).run o e=some e'→Rep w Φ (AlOf w rv E) p (a.eval x) []→∃ e1 rv1 E1 L1,(k (E1 g)).run o e1=some e'∧St w0 U Φ0 nt hv a w e1 Φ rv1 E1 L1∧rv1 g=a.eval x∧Held g rv rv1 E E1 L L1:=by
    intro p h hr
    refine ⟨e,_,_,_,?_,S.hold hg hr,upd_at,fun s _ hne=>⟨upd_ne hne,upd_ne hne,upd_ne hne⟩⟩
    rw [upd_at];exact h
  cases x with
  | tmp t =>
    have ht:=blt_lt hx
    have htg:(t:Nat)<ghost:=Nat.lt_of_lt_of_le ht (Nat.le_trans S.small (by decide))
    have hrep:=S.conf.rep t
    rw [S.env t htg] at hrep
    have hev:a.eval (.tmp t)=rv t:=S.tmps t ht
    simp only [opdT,PM.run] at h
    split at h
    · cases h
    · rename_i p _
      split at h
      · rename_i hh
        simp only [PM.run] at h
        refine ⟨_,_,_,_,?_,S.turn (e':=e.set t .bad) (S.conf.take htg hg) (fun s hs=>?_) (fun s hs=>upd_ne (by omega)) (fun d ps hd hp=>?_),by rw [upd_at,hev],fun s h1 h2=>?_⟩
        · rw [upd_at,S.env t htg];exact h
        · rw [upd_ne (by omega),Env.get_set]
          by_cases h2:s=t
          · subst h2;rw [upd_at,if_pos rfl]
          · rw [upd_ne h2,if_neg h2];exact S.env s hs
        · rw [upd_ne (by simp only [ghost] at hg;omega)] at hp
          by_cases h2:d=t
          · subst h2;rw [upd_at] at hp;cases hp
          · rw [upd_ne h2] at hp;exact ⟨ps,hp,rfl⟩
        · have h3:s≠t:=by intro h;subst h;exact absurd htg (Nat.not_lt.2 h1)
          rw [upd_ne h2,upd_ne h2,upd_ne h2,upd_ne h3,upd_ne h3];exact ⟨rfl,rfl,rfl⟩
      · rename_i hh
        simp only [Bool.not_eq_true] at hh
        have hL:=light_nil _ _ _ hh hrep
        rw [hL] at hrep
        exact light _ h (by rw [hev];exact hrep)
  | const v=>exact light _ h (const_rep v)
  | func f=>exact light _ h ⟨rfl,#[],#[],rfl,⟨rfl,rfl⟩,⟨rfl,rfl⟩⟩
  | global g=>cases h
theorem lay_ok' (S:St w0 U Φ0 nt hv a w e Φ rv E L) {d g:Nat} (hdg:d<ghost) (hg:ghost≤g) {k:PM} (h:(lay d (E g) k).run o e=some e') :
    ∃ e1 E1 L1,k.run o e1=some e'∧Conf w0 U Φ0 w Φ (upd rv d (rv g)) E1 L1∧(∀ s,s<ghost→E1 s=e1.get s)∧(∀ s,s≠d→s<ghost→E1 s=E s∨E1 s=(E s).mapW (lose d [])) ∧
      (E1 d=E g∨E1 d=(E g).mapW (lose d []))∧E1 g = .bad∧∀ s,ghost≤s→s≠g→E1 s=E s∨E1 s=(E s).mapW (lose d []):=by
  have hdne:d≠g:=by omega
  simp only [lay] at h
  cases hh:(E g).heavy with
  | true =>
    rw [hh] at h;simp only [cond_true,PM.run] at h
    refine ⟨_,_,_,h,S.conf.lay hdg hg,fun s hs=>?_,fun s hs hs2 => .inr ?_,.inr ?_,upd_at,fun s h1 h2 => .inr ?_⟩
    · rw [upd_ne (by omega),Env.get_set,Env.get_kill]
      by_cases h2:s=d
      · subst h2;rw [upd_at,if_pos rfl]
      · rw [upd_ne h2,if_neg h2,S.env s hs]
    · rw [upd_ne (by omega),upd_ne hs]
    · rw [upd_ne (by omega),upd_at]
    · rw [upd_ne h2,upd_ne (by omega)]
  | false =>
    rw [hh] at h;simp only [cond_false,PM.run] at h
    have hrep:=S.conf.rep g
    rw [light_nil _ _ _ hh hrep] at hrep
    have h1:=S.conf.put (s:=d) hh hrep
    have h2:=h1.drop fun s=>s==g
    refine ⟨_,_,_,h,h2,fun s hs=>?_,fun s hs hs2 => .inl ?_,.inl ?_,by simp,fun s h1 h2 => .inl ?_⟩
    · rw [Env.get_set]
      have:(s==g)=false:=by simp;omega
      simp only [this,Bool.false_eq_true,if_false]
      by_cases h2:s=d
      · subst h2;rw [upd_at,if_pos rfl]
      · rw [upd_ne h2,if_neg h2,S.env s hs]
    · have:(s==g)=false:=by simp;omega
      simp [this,upd_ne hs]
    · have:(d==g)=false:=by simp;omega
      simp [this,upd_at]
    · have:(s==g)=false:=by simp [h2]
      simp [this,upd_ne (show s≠d by omega)]
theorem lay_ok (S:St w0 U Φ0 nt hv a w e Φ rv E L) {d g:Nat} (hd:d<hidBase) (hg:ghost≤g) {k:PM} (h:(lay d (E g) k).run o e=some e') :
    ∃ e1 E1 L1,k.run o e1=some e'∧Conf w0 U Φ0 w Φ (upd rv d (rv g)) E1 L1∧(∀ s,s<ghost→E1 s=e1.get s)∧(∀ s,s≠d→s<ghost→E1 s=E s∨E1 s=(E s).mapW (lose d [])) ∧
      (E1 d=E g∨E1 d=(E g).mapW (lose d []))∧E1 g = .bad∧∀ s,ghost≤s→s≠g→E1 s=E s∨E1 s=(E s).mapW (lose d []) :=
  lay_ok' S (by simp only [hidBase,ghost] at *;omega) hg h
theorem Act.put_tmps (a:Act) {d:Nat} {v:Value} (hd:d<a.tmps.size) (t:Nat):(a.put (some d) v).tmps.getD t undef=if t=d then v else a.tmps.getD t undef:=by
  simp only [Act.put,Array.getD_eq_getD_getElem?,Array.getElem?_setIfInBounds]
  by_cases h:t=d
  · subst h;simp [hd]
  · rw [if_neg (Ne.symm h),if_neg h]
theorem put_ok (S:St w0 U Φ0 nt hv a w e Φ rv E L) {d:Option Nat} (hd:∀ x,d=some x→x<nt) {g:Nat} (hg:ghost≤g) (h:(put d (E g)).run o e=some e') (hb:∀ s,ghost≤s→s≠g→E s = .bad) :
    Fr w0 U Φ0 nt hv (a.put d (rv g)) w e':=by
  have hsm:=S.small
  cases d with
  | none =>
    simp only [put,PM.run,Option.some.injEq] at h;subst h
    have h2:=S.conf.drop fun s=>s==g
    refine ⟨_,_,_,_,S.turn h2 (fun s hs=>?_) (fun _ _=>rfl) (fun d ps hd hp=>?_),fun s hs=>?_⟩
    · have:(s==g)=false:=by simp;omega
      simp only [this,Bool.false_eq_true,if_false];exact S.env s hs
    · have:(d==g)=false:=by simp only [ghost] at hg;simp;omega
      simp only [this,Bool.false_eq_true,if_false] at hp;exact ⟨ps,hp,rfl⟩
    · by_cases h3:s=g
      · subst h3;simp
      · have:(s==g)=false:=by simp [h3]
        simp only [this,Bool.false_eq_true,if_false];exact hb s hs h3
  | some d =>
    have hdn:=hd d rfl
    have hds:d<a.tmps.size:=by rw [S.size];exact hdn
    simp only [put] at h
    cases ht:(E g).isTup with
    | true=>rw [ht] at h;cases h
    | false =>
      rw [ht] at h;simp only [cond_false] at h
      obtain ⟨e1,E1,L1,h1,h2,h3,h4,h5,h6,h7⟩:=lay_ok S (by simp only [hidBase];omega) hg h
      simp only [PM.run,Option.some.injEq] at h1;subst h1
      refine ⟨_,_,_,_,⟨h2,h3,by simp only [Act.put,Array.size_setIfInBounds];exact S.size,S.small,fun t htn=>?_,fun d' ps i hd' hp hi=>?_,fun s hs1 hs2=>?_,S.dfr⟩,fun s hs=>?_⟩
      · rw [Act.put_tmps a hds]
        by_cases htd:t=d
        · subst htd;simp [upd_at]
        · rw [if_neg htd,upd_ne htd];exact S.tmps t htn
      · have hdne:d'≠d:=by
          intro hc;subst hc
          rcases h5 with h5 | h5
          · rw [h5] at hp;rw [hp] at ht;cases ht
          · rw [h5] at hp
            obtain ⟨ps',h8,_⟩:=dull_tup (lose_tup d' []) hp
            rw [h8] at ht;cases ht
        have:∃ ps',E d' = .tup ps'∧ps'.length=ps.length:=by
          rcases h4 d' hdne (by simp only [ghost];omega) with h8 | h8
          · exact ⟨ps,by rw [← h8,hp],rfl⟩
          · rw [h8] at hp;exact dull_tup (lose_tup d []) hp
        obtain ⟨ps',h8,h9⟩:=this
        obtain ⟨h10,vs,h11,h12⟩:=S.parts d' ps' i hd' h8 (by omega)
        exact ⟨h10,vs,by rw [upd_ne hdne];exact h11,by rw [upd_ne (by simp only [vslot];omega)];exact h12⟩
      · rw [upd_ne (by simp only [hidBase] at hs1;omega)];exact S.hid s hs1 hs2
      · by_cases h8:s=g
        · subst h8;exact h6
        · rcases h7 s hs h8 with h9 | h9
          · rw [h9];exact hb s hs h8
          · rw [h9,hb s hs h8];rfl
end
end Go.Eng
