/- For any news, cries, evenings and yV the law NewsHolds ends in true: what a yV j1 and what it j2 are as specified; without conditions. -/
import Derived.Calls
import Derived.Below
import Derived.CallsIn
import Derived.Laws.StructEq
import Derived.Laws.Cover3
import Derived.Laws.Slices
import Derived.Laws.MakeOwn
import Derived.Laws.CopyRow
set_option linter.unusedVariables false
set_option linter.unusedSimpArgs false
set_option linter.unusedSectionVars false
namespace Go.Eng
open Go
theorem zzLn {α:Type}:(∀ (l:List α) (i:Nat) (a:α),(l.set i a).length=l.length) ∧ (∀ a b:List α,(a++b).length=a.length+b.length) ∧ (∀ (a:α) (l:List α),(a::l).length=l.length+1) ∧ ([]:List α).length=0:=⟨fun _ _ _=>List.length_set,fun _ _=>List.length_append,fun _ _=>rfl,rfl⟩
inductive PV where
 | bad | und
 | int (k:IntKind) (n:Int) | bool (b:Bool)
 | nilp | nilf | nilm | nn | nils (sz:Nat)
 | agg (cs:List PV) | tup (vs:List PV)
 | sl (xs:List PV) | own (sz:Nat) (xs:List PV)
 | ref (p:PV) | box (p:PV)
 | map (es:List (PV×PV)) | omap (es:List (PV×PV))
 | func (f:FuncId) (first caps:List PV)
 | addr (r:Nat) (pre:List (Nat×Nat)) (i c:Nat) (sh:Option Nat)
 | bor (r:Nat) (pre:List (Nat×Nat)) (sz lo n:Nat)
 | bsl (r:Nat) (pre:List (Nat×Nat)) (i c:Nat) (sz:Nat) (ag:Bool) (n:Nat)
 | bmap (r:Nat) (pre:List (Nat×Nat))
 | lock (p:PV)
 | yld (h:Nat) | log (xs:List PV) (k:Int)
 deriving Inhabited
abbrev zAQ:=List (Nat×Nat)
def zAn:Nat:=50000000
def zAw:Nat:=60000000
def zAb:Nat:=1000000000
def depth:Nat:=6
abbrev Env:=List (Nat×PV)
def Env.get:Env→Nat→PV
 | [],_ => .bad
 | (k,v)::e,s=>bif Nat.beq k s then v else Env.get e s
def Env.set:Env→Nat→PV→Env
 | [],s,p=>[(s,p)]
 | (k,v)::e,s,p=>bif Nat.beq k s then (s,p)::e else bif Nat.ble s k then (s,p)::(k,v)::e else (k,v)::Env.set e s p
def PV.cells:PV→List PV
 | .agg cs=>cs
 | p=>[p]
def zNy:Option Nat→List PV→PV
 | some _,cs => .agg cs
 | none,c::_=>c
 | none,[] => .bad
def PV.isAgg:PV→Bool
 | .agg _=>true
 | _=>false
def PV.oneCell:PV→Bool
 | .int .. | .bool _ | .nilp | .nilf | .nilm | .nn | .nils _ | .sl _ | .own .. | .ref _ | .box _ | .map _ | .omap _ | .func .. | .addr .. | .bor .. | .bsl .. | .bmap .. => true
 | _=>false
def PV.whole (p:PV):Bool:=p.isAgg||p.oneCell
def PV.isTup:PV→Bool
 | .tup _=>true
 | _=>false
def PV.heavy0:PV→Bool
 | .own .. | .box .. | .omap .. => true
 | _=>false
mutual
def PV.heavy:PV→Bool
 | .own .. => true
 | .box _=>true
 | .omap _=>true
 | .lock _=>true
 | .agg cs=>zCW cs
 | .tup vs=>zCW vs
 | _=>false
def zCW:List PV→Bool
 | []=>false
 | p::ps=>p.heavy||zCW ps
end
def zG0 (r:Nat) (pre:zAQ):PV→PV
 | .agg _ | .tup _ | .lock _ => .bad
 | .own sz xs => .bor r pre sz 0 xs.length
 | .box p => .addr r pre 0 0 (match p with | .agg cs=>some cs.length | _=>none)
 | .omap _ => .bmap r pre
 | p=>p
def zBv (r:Nat) (pre:zAQ) (i:Nat):Nat→List PV→List PV
 | _,[]=>[]
 | c,p::ps=>zG0 r (pre++[(i,c)]) p::zBv r pre i (c+1) ps
def zSG (r:Nat):PV→PV
 | .agg cs => .agg (zBv r [] 0 0 cs)
 | .tup _ => .bad
 | p=>zG0 r [] p
def view (r:Nat):PV→PV
 | .lock p=>zSG r p
 | p=>zSG r p
def PV.unlock:PV→PV
 | .lock p=>p
 | p=>p
def zX1:PV→Option (List PV)
 | .own _ xs=>some xs
 | .sl xs=>some xs
 | .box p=>some [p]
 | .ref p=>some [p]
 | .agg cs=>some [.agg cs]
 | _=>none
def zA7:PV→Option (List PV)
 | .own _ xs=>some xs
 | .box p=>some [p]
 | _=>none
def zAB:PV→List PV→Option PV
 | .own sz _,xs=>some (.own sz xs)
 | .box _,[p]=>some (.box p)
 | .agg _,[.agg cs]=>some (.agg cs)
 | _,_=>none
def zAY:PV→Option (List PV)
 | .own _ xs=>some xs
 | .box p=>some [p]
 | .agg cs=>some [.agg cs]
 | _=>none
def zAx:PV→Nat→List PV→PV
 | .agg cs,c,qs => .agg (cs.take c++qs++cs.drop (c+qs.length))
 | _,_,q::_=>q
 | p,_,[]=>p
def zAy:PV→zAQ→Option PV
 | p,[]=>some p
 | p,(i,c)::rest =>
  match zAY p with
  | some xs=>match xs[i]? with
   | some x=>match x.cells[c]? with
    | some q=>zAy q rest
    | none=>none
   | none=>none
  | none=>none
def zAt (f:PV→Option PV):PV→zAQ→Option PV
 | p,[]=>f p
 | p,(i,c)::rest =>
  match zAY p with
  | some xs=>match xs[i]? with
   | some x=>match x.cells[c]? with
    | some q=>match zAt f q rest with
     | some q'=>zAB p (xs.set i (zAx x c [q']))
     | none=>none
    | none=>none
   | none=>none
  | none=>none
mutual
def zAR:PV→PV
 | .own _ xs => .sl (zAD xs)
 | .box q => .ref (zAR q)
 | .omap es => .map es
 | .agg cs => .agg (zAD cs)
 | .tup _ => .bad
 | .lock _ => .bad
 | p=>p
def zAD:List PV→List PV
 | []=>[]
 | p::ps=>zAR p::zAD ps
end
mutual
def PV.free:PV→Bool
 | .int .. | .bool .. | .nilp | .nilf | .nilm | .nn | .nils _ | .und=>true
 | .sl []=>true
 | .agg cs=>zEE cs
 | .tup vs=>zEE vs
 | .own _ xs=>zEE xs
 | .box q=>q.free
 | .omap es=>zOy es
 | _=>false
def zEE:List PV→Bool
 | []=>true
 | p::ps=>p.free&&zEE ps
def zOy:List (PV×PV)→Bool
 | []=>true
 | (k,v)::es=>k.free&&v.free&&zOy es
end
inductive PM where
 | ok | fail
 | view (s:Nat) (k:PV→PM)
 | get (s:Nat) (k:PV→PM)
 | set (s:Nat) (p:PV) (k:PM)
 | cells (r:Nat) (pre:zAQ) (i c n:Nat) (k:Bool→List PV→PM)
 | deep (r:Nat) (pre:zAQ) (k:PV→PM)
 | wcells (r:Nat) (pre:zAQ) (i c:Nat) (qs:List PV) (k:PM)
 | wnode (r:Nat) (pre:zAQ) (q:PV) (k:PM)
 | kill (r:Nat) (pre:zAQ) (k:PM)
 | frz (r:Nat) (pre:zAQ) (k:PM)
 | killEx (r:Nat) (keep:List zAQ) (k:PM)
 | forget (h:Nat) (k:PM)
 | call (f:FuncId) (args hid:List PV) (k:PV→List PV→PM)
abbrev zAC:=FuncId→List PV→List PV→Option (PV×List PV)
mutual
def PV.mapW (f:PV→PV):PV→PV
 | .addr r pre i c sh=>f (.addr r pre i c sh)
 | .bor r pre z lo n=>f (.bor r pre z lo n)
 | .bsl r pre i c sz ag n=>f (.bsl r pre i c sz ag n)
 | .bmap r pre=>f (.bmap r pre)
 | .log xs k=>f (.log xs k)
 | .agg cs => .agg (zCI f cs)
 | .tup cs => .tup (zCI f cs)
 | .func g a b => .func g (zCI f a) (zCI f b)
 | .ref q => .ref (q.mapW f)
 | .box q => .box (q.mapW f)
 | .lock q => .lock (q.mapW f)
 | p=>p
def zCI (f:PV→PV):List PV→List PV
 | []=>[]
 | p::ps=>p.mapW f::zCI f ps
end
mutual
def PV.ways:PV→List (Nat×zAQ)
 | .addr r pre .. => [(r,pre)]
 | .bor r pre .. => [(r,pre)]
 | .bsl r pre .. => [(r,pre)]
 | .bmap r pre=>[(r,pre)]
 | .agg cs=>zBq cs
 | .tup cs=>zBq cs
 | .func _ a b=>zBq a++zBq b
 | .ref q=>q.ways
 | .box q=>q.ways
 | .lock q=>q.ways
 | _=>[]
def zBq:List PV→List (Nat×zAQ)
 | []=>[]
 | p::ps=>p.ways++zBq ps
end
def PV.plain0:PV→Bool
 | .int .. | .bool .. | .nilp | .nilf | .nilm | .nn | .nils _ | .sl .. | .map .. => true
 | .ref q=>q.ways.isEmpty
 | _=>false
def PV.plain:PV→Bool
 | .agg cs=>cs.all PV.plain0
 | p=>p.plain0
def lose (r:Nat) (pre:zAQ):PV→PV
 | .addr r' q i c sh=>bif Nat.beq r' r&&pre.isPrefixOf q then .bad else .addr r' q i c sh
 | .bor r' q z lo n=>bif Nat.beq r' r&&pre.isPrefixOf q then .bad else .bor r' q z lo n
 | .bsl r' q i c sz ag n=>bif Nat.beq r' r&&pre.isPrefixOf q then .bad else .bsl r' q i c sz ag n
 | .bmap r' q=>bif Nat.beq r' r&&pre.isPrefixOf q then .bad else .bmap r' q
 | p=>p
def zBC (r:Nat) (keep:List zAQ):PV→PV
 | .addr r' q i c sh=>bif Nat.beq r' r && !(q.isEmpty||keep.any q.isPrefixOf) then .bad else .addr r' q i c sh
 | .bor r' q z lo n=>bif Nat.beq r' r && !(q.isEmpty||keep.any q.isPrefixOf) then .bad else .bor r' q z lo n
 | .bsl r' q i c sz ag n=>bif Nat.beq r' r && !(q.isEmpty||keep.any q.isPrefixOf) then .bad else .bsl r' q i c sz ag n
 | .bmap r' q=>bif Nat.beq r' r && !(q.isEmpty||keep.any q.isPrefixOf) then .bad else .bmap r' q
 | p=>p
def Env.killEx (e:Env) (r:Nat) (keep:List zAQ):Env:=e.map fun x=>(x.1,x.2.mapW (zBC r keep))
def zAI (r:Nat) (pre:zAQ) (r':Nat) (q:zAQ):Bool:=Nat.beq r' r&&pre.isPrefixOf q
def zDy (i c:Nat) (sh:Option Nat) (q:PV):PV :=
 match zA7 q with
 | some xs=>match xs[i]? with
  | some x=>match sh with
   | some m=>bif Nat.ble (c+m) x.cells.length&&x.isAgg then .ref (.agg (zAD ((x.cells.drop c).take m))) else .bad
   | none=>match x.cells[c]? with
    | some q=>bif q.oneCell then .ref (zAR q) else .bad
    | none => .bad
  | none => .bad
 | none => .bad
def zCq (lo n:Nat):PV→PV
 | .own _ xs=>bif Nat.ble (lo+n) xs.length then .sl (zAD ((xs.drop lo).take n)) else .bad
 | _ => .bad
def zCf (ag:Bool) (sz:Nat):Nat→List PV→List PV
 | 0,_=>[]
 | m+1,cs=>(bif ag then .agg (cs.take sz) else cs.headD .bad)::zCf ag sz m (cs.drop sz)
def zCg (ag:Bool) (sz m:Nat) (cs:List PV):Bool:=Nat.beq cs.length (m*sz)&&(ag||Nat.beq sz 1&&cs.all (fun q=>q.oneCell))
def zCm (i c sz:Nat) (ag:Bool) (m:Nat) (q:PV):PV :=
 match zA7 q with
 | some xs=>match xs[i]? with
  | some x=>bif zCg ag sz m ((x.cells.drop c).take (m*sz))&&(zBq x.cells).isEmpty then .sl (zCf ag sz m (zAD ((x.cells.drop c).take (m*sz)))) else .bad
  | none => .bad
 | none => .bad
def zEz:PV→PV
 | .omap es => .map es
 | _ => .bad
def zGg (q:Option PV) (f:PV→PV):PV :=
 match q with
 | some x=>f x
 | none => .bad
def inl (r:Nat) (pre:zAQ) (q0:PV):PV→PV
 | .addr r' q i c sh=>bif zAI r pre r' q then zGg (zAy q0 (q.drop pre.length)) (zDy i c sh) else .addr r' q i c sh
 | .bor r' q z lo n=>bif zAI r pre r' q then zGg (zAy q0 (q.drop pre.length)) (zCq lo n) else .bor r' q z lo n
 | .bsl r' q i c sz ag n=>bif zAI r pre r' q then zGg (zAy q0 (q.drop pre.length)) (zCm i c sz ag n) else .bsl r' q i c sz ag n
 | .bmap r' q=>bif zAI r pre r' q then zGg (zAy q0 (q.drop pre.length)) zEz else .bmap r' q
 | p=>p
def PV.isLock:PV→Bool
 | .lock _=>true
 | _=>false
def Env.frz (e:Env) (r:Nat) (pre:zAQ):Option Env :=
 bif (e.get r).isLock then none else match zAy (e.get r) pre with
 | some q=>match zAt (fun _=>some (zAR q)) (e.get r) pre with
  | some root=>some ((e.set r root).map fun x=>(x.1,x.2.mapW (inl r pre q)))
  | none=>none
 | none=>none
def Env.kill (e:Env) (r:Nat) (pre:zAQ):Env:=e.map fun x=>(x.1,x.2.mapW (lose r pre))
def PV.num:PV→Bool
 | .int .. => true
 | .bool _=>true
 | _=>false
def PV.isWay:PV→Bool
 | .addr .. | .bor .. | .bsl .. | .bmap .. | .log .. => true
 | _=>false
def Env.forget (e:Env) (h:Nat):Env:=e.map fun x=>bif Nat.beq x.1 h||x.2.num then x else (x.1,.bad)
def zAv (r:Nat) (root:PV) (pre:zAQ) (i c n:Nat):Option (Bool×List PV) :=
 match zAy root.unlock pre with
 | some q=>match zA7 q with
  | some xs=>match xs[i]? with
   | some x=>bif Nat.ble (c+n) x.cells.length then some (x.isAgg,zBv r pre i c ((x.cells.drop c).take n)) else none
   | none=>none
  | none=>none
 | none=>none
def zDz:PV→zAQ→Bool
 | .own ..,_=>true
 | _,[]=>false
 | p,(i,c)::rest =>
  match zAY p with
  | some xs=>match xs[i]? with
   | some x=>match x.cells[c]? with
    | some q=>zDz q rest
    | none=>false
   | none=>false
  | none=>false
def zBw (root:PV) (pre:zAQ) (i c:Nat) (qs:List PV):Option PV :=
 bif zDz root pre && !(zBq qs).isEmpty then none else zAt (fun q=>match zA7 q with
  | some xs=>match xs[i]? with
   | some x=>bif Nat.ble (c+qs.length) x.cells.length then zAB q (xs.set i (zAx x c qs)) else none
   | none=>none
  | none=>none) root pre
def PM.run (o:zAC):PM→Env→Option Env
 | .ok,e=>some e
 | .fail,_=>none
 | .view s k,e=>(k (Eng.view s (e.get s))).run o e
 | .get s k,e=>match e.get s with
  | .lock _=>none
  | p=>(k p).run o e
 | .set s p k,e=>k.run o (e.set s p)
 | .cells r pre i c n k,e=>match zAv r (e.get r) pre i c n with
  | some (a,qs)=>(k a qs).run o e
  | none=>none
 | .deep r pre k,e=>match zAy (e.get r).unlock pre with
  | some q=>(k q).run o e
  | none=>none
 | .wcells r pre i c qs k,e=>match zBw (e.get r) pre i c qs with
  | some root=>k.run o (e.set r root)
  | none=>none
 | .wnode r pre q k,e=>bif (e.get r).isLock then none else match zAt (fun _=>some q) (e.get r) pre with
  | some root=>k.run o (e.set r root)
  | none=>none
 | .kill r pre k,e=>k.run o (e.kill r pre)
 | .frz r pre k,e=>match e.frz r pre with
  | some e'=>k.run o e'
  | none=>none
 | .killEx r keep k,e=>k.run o (e.killEx r keep)
 | .forget h k,e=>k.run o (e.forget h)
 | .call f args hid k,e=>match o f args hid with
  | some (v,hO)=>(k v hO).run o e
  | none=>none
structure Tok where
 look:List Nat:=[]
 rd:List Nat:=[]
 cel:List (Nat×zAQ):=[]
 wr:List Nat:=[]
 inn:List (Nat×zAQ):=[]
 ways:List (Nat×zAQ):=[]
 kills:List Nat:=[]
 killsIn:List Nat:=[]
 all:Bool:=false
 deriving Inhabited
def Tok.join (a b:Tok):Tok:=⟨a.look++b.look,a.rd++b.rd,a.cel++b.cel,a.wr++b.wr,a.inn++b.inn,a.ways++b.ways,a.kills++b.kills,a.killsIn++b.killsIn,a.all||b.all⟩
def zCv:PV→PV→Bool
 | .box p,.box q=>p.isAgg==q.isAgg&&Nat.beq p.cells.length q.cells.length
 | .own sz xs,.own sz' ys=>Nat.beq sz sz'&&Nat.beq xs.length ys.length
 | .omap _,.omap _=>true
 | _,_=>false
def zAE:PV→PV→zAQ→Bool
 | .agg cs,.agg ds,(_,c)::_=>match cs[c]?,ds[c]? with
  | some p,some q=>zCv p q
  | _,_=>false
 | p,q,_=>zCv p q
def zRt (a b:List Nat):Bool:=a.any fun x=>b.any (Nat.beq x)
def zLY (l:List (Nat×zAQ)):List Nat:=l.map (·.1)
def zOg (a b:Tok):Bool :=
 a.all||zRt a.wr b.look||zRt a.wr b.rd||zRt a.wr (zLY b.cel)||zRt a.wr b.wr||zRt a.wr (zLY b.inn)||zRt (zLY a.inn) b.rd||zRt (zLY a.inn) (zLY b.inn) ||
  a.inn.any (fun w=>b.cel.any fun c=>Nat.beq w.1 c.1&&w.2.isPrefixOf c.2)||zRt a.kills (zLY b.ways) ||
  zRt a.killsIn (zLY (b.ways.filter fun w => !w.2.isEmpty))
def zPK (a b:Tok):Bool:=zOg a b||zOg b a
def zFk (s:Nat) (p q:PV):Tok:={wr:=[s],ways:=p.ways++q.ways}
def zAH (D:List Nat) (g g':Nat→PV) (ks ki:List Nat):Tok:={wr:=D,ways:=D.flatMap fun s=>(g s).ways++(g' s).ways,kills:=ks,killsIn:=ki}
def zC8 (e:Env) (h:Nat×zAQ→Bool):List Nat:=(e.filter fun x=>x.2.ways.any h).map (·.1)
def zA9 (r:Nat) (w:zAQ) (b:Bool) (p q:PV):Tok:={inn:=bif b then [(r,w)] else [],wr:=bif b then [] else [r],ways:=p.ways++q.ways}
def PM.runT (o:zAC):PM→Env→Option (Env×Tok)
 | .ok,e=>some (e,{})
 | .fail,_=>none
 | .view s k,e=>((k (Eng.view s (e.get s))).runT o e).map fun x=>(x.1,Tok.join {look:=[s]} x.2)
 | .get s k,e=>match e.get s with
  | .lock _=>none
  | p=>((k p).runT o e).map fun x=>(x.1,Tok.join {rd:=[s]} x.2)
 | .set s p k,e=>(k.runT o (e.set s p)).map fun x=>(x.1,Tok.join (zFk s (e.get s) p) x.2)
 | .cells r pre i c n k,e=>match zAv r (e.get r) pre i c n with
  | some (a,qs)=>((k a qs).runT o e).map fun x=>(x.1,Tok.join {cel:=[(r,pre)]} x.2)
  | none=>none
 | .deep r pre k,e=>match zAy (e.get r).unlock pre with
  | some q=>((k q).runT o e).map fun x=>(x.1,Tok.join {rd:=[r]} x.2)
  | none=>none
 | .wcells r pre i c qs k,e=>match zBw (e.get r) pre i c qs with
  | some root=>(k.runT o (e.set r root)).map fun x=>(x.1,Tok.join (zA9 r [] (zAE (e.get r) root pre) (e.get r) root) x.2)
  | none=>none
 | .wnode r pre q k,e=>bif (e.get r).isLock then none else match zAt (fun _=>some q) (e.get r) pre with
  | some root=>(k.runT o (e.set r root)).map fun x=>(x.1,Tok.join (zA9 r pre.dropLast (zAE (e.get r) root pre&&(pre.isEmpty || !q.isAgg)) (e.get r) root) x.2)
  | none=>none
 | .kill r pre k,e=>(k.runT o (e.kill r pre)).map fun x=>(x.1,Tok.join (zAH (zC8 e fun z=>zAI r pre z.1 z.2) e.get (e.kill r pre).get [r] []) x.2)
 | .frz r pre k,e=>match e.frz r pre with
  | some e'=>(k.runT o e').map fun x=>(x.1,Tok.join (zAH (r::zC8 e fun z=>zAI r pre z.1 z.2) e.get e'.get [r] []) x.2)
  | none=>none
 | .killEx r keep k,e=>(k.runT o (e.killEx r keep)).map fun x=>(x.1,Tok.join (zAH (zC8 e fun z=>Nat.beq z.1 r && !z.2.isEmpty) e.get (e.killEx r keep).get [] [r]) x.2)
 | .forget h k,e=>(k.runT o (e.forget h)).map fun x=>(x.1,{all:=true})
 | .call f args hid k,e=>match o f args hid with
  | some (v,hO)=>(k v hO).runT o e
  | none=>none
variable (P:Program)
def szT (t:TypeId):Option Nat:=(P.info? t).map (·.size)
def zHU (t:TypeId):Option Nat:=(P.info? t).map (·.bytes)
def shT (t:TypeId):Option (Option Nat) :=
 match P.underlying t,P.info? t with
 | some (.struct _),some i=>some (some i.size)
 | some (.array _ _),some i=>some (some i.size)
 | some _,some i=>if i.size=1 then some none else none
 | _,_=>none
def zBK (t:TypeId):Option TypeId :=
 match P.underlying t with
 | some (.slice e)=>some e
 | _=>none
def zeroCells:Nat→TypeId→Option (List PV)
 | 0,_=>none
 | n+1,t=>match P.underlying t with
  | some (.int k)=>some [.int k 0]
  | some .bool=>some [.bool false]
  | some (.pointer _)=>some [.nilp]
  | some (.func ..)=>some [.nilf]
  | some (.map ..)=>some [.nilm]
  | some (.slice e)=>(szT P e).map fun s=>[.own s []]
  | some (.array m e)=>(zeroCells n e).map fun z=>(List.replicate m z).flatten
  | some (.struct fs)=>(fs.toList.mapM fun f=>zeroCells n f.type).map List.flatten
  | _=>none
def zJ0:PV→Value→Bool
 | .int k n,.int k' m=>decide (k=k')&&decide (n=m)
 | .bool a,.bool b=>a==b
 | .nilp,.pointer none=>true
 | .nilf,.nilFunc=>true
 | .nilm,.map none=>true
 | .own _ [],.slice none 0 0=>true
 | _,_=>false
def zS6:List PV→List Value→Bool
 | [],[]=>true
 | p::ps,v::vs=>zJ0 p v&&zS6 ps vs
 | _,_=>false
def zMC:PV→Value→Bool
 | .agg cs,.agg vs=>zS6 cs vs.toList
 | .agg _,_=>false
 | p,v=>zJ0 p v
def zCz (t:TypeId):Option PV :=
 match zeroCells P 20 t,shT P t,(P.info? t).bind (·.zero) with
 | some cs,some sh,some v=>bif zMC (zNy sh cs) v then some (zNy sh cs) else none
 | _,_,_=>none
def zEs:Value→PV
 | .int k n => .int k n
 | .bool b => .bool b
 | .slice none 0 0 => .nils 0
 | .pointer none => .nilp
 | .nilFunc => .nilf
 | .map none => .nilm
 | .agg cs => .agg (cs.toList.map fun | .int k n => .int k n | .bool b => .bool b | _ => .bad)
 | _ => .bad
def opd (x:Operand) (k:PV→PM):PM :=
 match x with
 | .tmp t => .view t k
 | .const v=>k (zEs v)
 | .func f=>k (.func f [] [])
 | .global _ => .fail
def zO9 (x:Operand) (k:PV→PM):PM :=
 match x with
 | .tmp t => .get t fun p=>if p.heavy then .set t .bad (k p) else k p
 | .const v=>k (zEs v)
 | .func f=>k (.func f [] [])
 | .global _ => .fail
def zSy:List Operand→(List PV→PM)→PM
 | [],k=>k []
 | x::xs,k=>opd x fun p=>zSy xs fun ps=>k (p::ps)
def zS8:List Operand→(List PV→PM)→PM
 | [],k=>k []
 | x::xs,k=>zO9 x fun p=>zS8 xs fun ps=>k (p::ps)
def lay (d:Nat) (p:PV) (k:PM):PM:=bif p.heavy then .kill d [] (.set d (p.mapW (lose d [])) k) else .set d p k
def put (d:Option Nat) (p:PV):PM :=
 match d with
 | none => .ok
 | some d=>bif p.isTup then .fail else lay d p .ok
def zBm (d i:Nat):Nat:=2000000+16*d+i
def zE6 (d:Nat):Nat→List PV→PM→PM
 | n,[],k => .set d (.tup (List.replicate n .bad)) k
 | i,p::ps,k=>lay (zBm d i) p (zE6 d (i+1) ps k)
def zJE (d s:Nat):Bool:=Nat.ble (zBm d 0) s&&Nat.blt s (zBm d 16)
def zDk (d:Option Nat) (v:PV):PM :=
 match d,v with
 | some d,.tup vs=>bif Nat.ble vs.length 16&&(zBq vs).all (fun w => !zJE d w.1) then .set d .bad (zE6 d 0 vs .ok) else .fail
 | d,v=>put d v
def zFO (s d:Nat):Nat→Nat→PM
 | n,0 => .set d (.tup (List.replicate n .bad)) .ok
 | i,n+1 => .get (zBm s i) fun p => .set (zBm s i) .bad (lay (zBm d i) p (zFO s d (i+1) n))
def zXl:PV→PV→Option Bool
 | .int k a,.int k' b=>if k=k' then some (a==b) else none
 | .bool a,.bool b=>some (a==b)
 | .nilp,.nilp=>some true
 | _,_=>none
def zFH:List PV→List PV→Option Bool
 | [],[]=>some true
 | p::ps,q::qs=>match zXl p q,zFH ps qs with
  | some a,some b=>some (a&&b)
  | _,_=>none
 | _,_=>none
def zEX:PV→Bool
 | .sl (_::_)=>true
 | .nn=>true
 | .own _ (_::_)=>true
 | .bor _ _ _ _ (_+1)=>true
 | _=>false
def sub (p:PV) (off:Nat) (sh:Option Nat):Option PV :=
 match p,sh with
 | .agg cs,some n=>if off+n≤cs.length then some (.agg ((cs.drop off).take n)) else none
 | .agg cs,none=>cs[off]?
 | _,_=>none
def zT9 (eq:TypeId→PV→PV→Option Bool) (sh:TypeId→Option (Option Nat)) (p q:PV):List Field→Option Bool
  | []=>some true
  | f :: fs =>
    if f.name = "_" then zT9 eq sh p q fs else
    match sh f.type with
    | some s=>match sub p f.offset s,sub q f.offset s with
      | some a,some b=>match eq f.type a b with
        | some true=>zT9 eq sh p q fs
        | r=>r
      | _,_=>none
    | none=>none
def zUs (eq:PV→PV→Option Bool) (sh:Option Nat) (sz:Nat) (p q:PV):Nat→Nat→Option Bool
 | _,0=>some true
 | i,n+1 =>
  match sub p (i*sz) sh,sub q (i*sz) sh with
  | some a,some b=>match eq a b with
   | some true=>zUs eq sh sz p q (i+1) n
   | r=>r
  | _,_=>none
def eqT:Nat→TypeId→PV→PV→Option Bool
 | 0,_,_,_=>none
 | n + 1,t,p,q =>
  match P.underlying t,p,q with
  | some (.int _),.int k a,.int k' b=>if k=k' then some (a==b) else none
  | some .bool,.bool a,.bool b=>some (a==b)
  | some (.pointer _),.nilp,.nilp=>some true
  | some (.struct fs),.agg xs,.agg ys=>bif P.stoodInHeld t then none else zT9 (eqT n) (shT P) (.agg xs) (.agg ys) fs.toList
  | some (.array len e),.agg xs,.agg ys=>match szT P e,shT P e with
   | some sz,some sh=>zUs (eqT n e) sh sz (.agg xs) (.agg ys) 0 len
   | _,_=>none
  | _,_,_=>none
def eqV (t:TypeId) (p q:PV):Option Bool :=
 match q with
 | .nils _=>match P.underlying t,p with
  | some (.slice _),.nils _=>some true
  | some (.slice _),p=>bif zEX p then some false else none
  | _,_=>none
 | .agg ys=>match p with
  | .agg xs=>bif P.eqGuardType P.depth t then none else eqT P 20 t (.agg xs) (.agg ys)
  | _=>none
 | q=>bif p.isAgg then none else eqT P 20 t p q
def zUZ (op:BinOp) (k:IntKind) (a b:Int):Option PV :=
 match op with
 | .add=>some (.int k (k.wrap (a+b)))
 | .sub=>some (.int k (k.wrap (a-b)))
 | .mul=>some (.int k (k.wrap (a*b)))
 | .quo=>if b=0 then none else some (.int k (k.wrap (a.tdiv b)))
 | .rem=>if b=0 then none else some (.int k (a.tmod b))
 | .and=>some (.int k (k.wrap (BitVec.ofInt k.bits a &&& BitVec.ofInt k.bits b).toNat))
 | .or=>some (.int k (k.wrap (BitVec.ofInt k.bits a ||| BitVec.ofInt k.bits b).toNat))
 | .xor=>some (.int k (k.wrap (BitVec.ofInt k.bits a ^^^ BitVec.ofInt k.bits b).toNat))
 | .eql=>some (.bool (a==b))
 | .neq=>some (.bool (a != b))
 | .lss=>some (.bool (decide (a<b)))
 | .leq=>some (.bool (decide (a≤b)))
 | .gtr=>some (.bool (decide (a>b)))
 | .geq=>some (.bool (decide (a≥b)))
 | _=>none
def zJT (op:BinOp) (t:TypeId) (p q:PV):Option PV :=
 match op,p,q with
 | .shl,.int k a,.int _ b=>if b<0 then none else some (.int k (k.wrap (a*2 ^ (min b.toNat k.bits))))
 | .shr,.int k a,.int _ b=>if b<0 then none else some (.int k (a.fdiv (2 ^ (min b.toNat k.bits))))
 | op,.int k a,.int k' b=>if k=k' then zUZ op k a b else none
 | .eql,p,q=>(eqV P t p q).map .bool
 | .neq,p,q=>(eqV P t p q).map fun b => .bool (!b)
 | _,_,_=>none
def lenOf:PV→Option Nat
 | .nils _=>some 0
 | .nn=>some 0
 | .sl xs=>some xs.length
 | .bor _ _ _ _ n=>some n
 | .bsl _ _ _ _ _ _ n=>some n
 | _=>none
def zMr (r:Nat) (pre:zAQ) (i c:Nat) (sh:Option Nat) (k:PV→PM):PM :=
 match sh with
 | some n => .cells r pre i c n fun a qs=>bif a then k (.agg qs) else .fail
 | none => .cells r pre i c 1 fun _ qs=>k (qs.headD .bad)
def zDS (r:Nat) (pre:zAQ) (i:Nat):Nat→List PV→PM→PM
 | _,[],k=>k
 | c,q::qs,k=>bif q.heavy then .kill r (pre++[(i,c)]) (zDS r pre i (c+1) qs k) else zDS r pre i (c+1) qs k
def zEj (res:PV→(PV→List (Nat×zAQ)→PM)→PM):List PV→(List PV→List (Nat×zAQ)→PM)→PM
 | [],k=>k [] []
 | p::ps,k=>res p fun q l=>zEj res ps fun qs m=>k (q::qs) (l++m)
def resolve (hb:Nat):Nat→PV→(PV→List (Nat×zAQ)→PM)→PM
 | 0,_,_ => .fail
 | n + 1,p,k =>
  match p with
  | .addr r pre i c sh=>bif Nat.ble hb r then k p [] else .deep r pre fun q=>match zA7 q with
   | some xs=>match xs[i]? with
    | some x=>match sh with
     | some m=>bif Nat.ble (c+m) x.cells.length&&x.isAgg then resolve hb n (.agg ((x.cells.drop c).take m)) fun q l=>k (.ref q) ((r,pre)::l) else .fail
     | none=>match x.cells[c]? with
      | some q=>bif q.oneCell then resolve hb n q fun q l=>k (.ref q) ((r,pre)::l) else .fail
      | none => .fail
    | none => .fail
   | none => .fail
  | .bor r pre _ lo m=>bif Nat.ble hb r then k p [] else .deep r pre fun q=>match q with
   | .own _ xs=>bif Nat.ble (lo+m) xs.length then k (.sl (zAD ((xs.drop lo).take m))) [(r,pre)] else .fail
   | _ => .fail
  | .bsl r pre i c sz ag m=>bif Nat.ble hb r then k p [] else .deep r pre fun q=>match zA7 q with
   | some xs=>match xs[i]? with
    | some x=>bif zCg ag sz m ((x.cells.drop c).take (m*sz))&&(zBq x.cells).isEmpty then k (.sl (zCf ag sz m (zAD ((x.cells.drop c).take (m*sz))))) [(r,pre)] else .fail
    | none => .fail
   | none => .fail
  | .bmap r pre=>bif Nat.ble hb r then k p [] else .deep r pre fun q=>match q with
   | .omap es=>k (.map es) [(r,pre)]
   | _ => .fail
  | .agg cs=>bif (p.ways).isEmpty then k (zAR p) [] else zEj (resolve hb n) cs fun qs l=>k (.agg qs) l
  | .func f a b=>bif (p.ways).isEmpty then k p [] else zEj (resolve hb n) a fun as l=>zEj (resolve hb n) b fun bs m=>k (.func f as bs) (l++m)
  | .ref q=>bif (q.ways).isEmpty then k p [] else resolve hb n q fun q l=>k (.ref q) l
  | .bad=>k .bad []
  | p=>bif p.ways.all (fun w=>Nat.ble hb w.1) then k (zAR p) [] else .fail
def zHd (p:PV) (k:List PV→PM):PM :=
 match p with
 | .nils _=>k []
 | .nn=>k []
 | .sl xs=>k xs
 | .bor r pre z lo n => .deep r pre fun q=>match q with
  | .own _ xs=>bif Nat.ble (lo+n) xs.length then k ((xs.drop lo).take n) else .fail
  | _ => .fail
 | .bsl r pre i c sz ag n => .cells r pre i c (n*sz) fun _ cs=>bif zCg ag sz n cs&&cs.all (fun q=>q.plain0) then k (zCf ag sz n cs) else .fail
 | _ => .fail
def zPG (p:PV) (k:PV→List (Nat×zAQ)→PM):PM:=resolve zAb depth p k
def zLE (hb:Nat):Nat→PV→(PV→PM)→PM
 | 0,_,_ => .fail
 | n+1,p,k=>match p.ways.find? (fun w=>Nat.blt w.1 hb) with
  | none=>k p
  | some (r,pre) => .deep r pre fun q => .frz r pre (zLE hb n (p.mapW (inl r pre q)) k)
def zDq:Nat:=64
end Go.Eng
namespace Go.Eng
open Go
structure FHint where
 drop:Nat→List Nat:=fun _=>[]
 loopDrop:Nat→List Nat:=fun _=>[]
 mode:List Nat:=[]
 frz:Bool:=false
 intr:Nat:=0
 take:Nat→List Nat:=fun _=>[]
 nils:Bool:=false
 frzs:Nat→List Nat:=fun _=>[]
 ices:Nat→List Nat:=fun _=>[]
abbrev zBb:=FuncId→FHint
instance:Inhabited FHint:=⟨{}⟩
def zEi (m:List (Nat×Nat)):PV→PV
 | .addr r pre i c sh=>match m.lookup r with
  | some h => .addr h pre i c sh
  | none => .bad
 | .bor r pre z lo n=>match m.lookup r with
  | some h => .bor h pre z lo n
  | none => .bad
 | .bsl r pre i c sz ag n=>match m.lookup r with
  | some h => .bsl h pre i c sz ag n
  | none => .bad
 | .bmap r pre=>match m.lookup r with
  | some h => .bmap h pre
  | none => .bad
 | p=>p
def zGC (m:List (Nat×Nat)) (p:PV):PV:=p.mapW (zEi m)
def zNC (p:PV):List Nat:=(p.ways).map (·.1)
structure Arg where
 p:PV
 shared:List (Nat×zAQ):=[]
 byref:Bool:=false
def zD0:List Nat→List PV→(List (Bool×PV)→PM)→PM
 | _,[],k=>k []
 | ms,p::ps,k =>
  match ms.headD 0,p with
  | 2,.bor r pre _ 0 n => .deep r pre fun q=>match q with
   | .own sz xs=>bif Nat.ble n xs.length then .wnode r pre .bad (zD0 ms.tail ps fun as=>k ((true,.own sz ((xs.drop 0).take n))::as)) else .fail
   | _ => .fail
  | _,p=>zD0 ms.tail ps fun as=>k ((false,p)::as)
def zCp:List Nat→List (Bool×PV)→(List Arg→PM)→PM
 | _,[],k=>k []
 | ms,(true,p)::ps,k=>zCp ms.tail ps fun as=>k ({p:=p}::as)
 | ms,(false,p)::ps,k =>
  bif Nat.beq (ms.headD 0) 1 then zCp ms.tail ps fun as=>k ({p:=p,byref:=true}::as)
  else zPG p fun q l=>zCp ms.tail ps fun as=>k ({p:=q,shared:=l}::as)
def zEa:List Nat→List (Bool×PV)→(List Arg→PM)→PM
 | _,[],k=>k []
 | ms,(true,p)::ps,k=>zEa ms.tail ps fun as=>k ({p:=p}::as)
 | ms,(false,p)::ps,k =>
  bif Nat.beq (ms.headD 0) 1 then zEa ms.tail ps fun as=>k ({p:=p,byref:=true}::as)
  else zLE zAb zDq p fun q=>zEa ms.tail ps fun as=>k ({p:=q}::as)
def zND:List Nat→(List PV→PM)→PM
 | [],k=>k []
 | r::rs,k => .get r fun p=>zND rs fun ps=>k (p::ps)
def zGm (old new:PV):Bool :=
 match new,old with
 | .own sz _,.own sz' _=>Nat.beq sz sz'
 | .own ..,_=>false
 | .box _,.box _=>true
 | .box _,_=>false
 | .omap _,.omap _=>true
 | .omap _,_=>false
 | .lock _,_=>false
 | .tup _,_=>false
 | _,_=>true
def zNK:List Nat→List PV→List PV→PM→PM
 | r::rs,o::os,p::ps,k=>bif zGm o p then .wnode r [] p (zNK rs os ps k) else .fail
 | [],[],[],k=>k
 | _,_,_,_ => .fail
def zKj:Nat→List Nat→(List Nat→PM)→PM
 | 0,R,k=>k R
 | n+1,R,k=>zND R fun ts=>let R':=(R++ts.flatMap zNC).eraseDups;bif Nat.beq R'.length R.length then k R else zKj n R' k
def zKr:List Nat→PM→PM
 | [],k=>k
 | r::rs,k => .killEx r [] (zKr rs k)
def zOc (as:List Arg):List Nat:=(as.flatMap fun a=>if a.byref then zNC a.p else []).eraseDups
def zHc:List Nat→Bool
 | []=>true
 | r::rs => !rs.contains r&&zHc rs
variable (P:Program) (H:zBb)
def zDt (R:List Nat):List (Nat×Nat):=R.zipIdx.map fun (r,j)=>(r,zAn+j)
def zB7 (R:List Nat):List (Nat×Nat):=R.zipIdx.map fun (r,j)=>(zAn+j,r)
def zRJ (d:Option Nat) (f:FuncId) (as:List Arg) (again:PM):PM :=
 zKj 3 (zOc as) fun R =>
 bif zHc R&&R.all (fun r=>Nat.blt r zAb)&&Nat.ble R.length 1000&&Nat.ble as.length 1000&&(as.flatMap (·.shared)).all (fun x => !R.contains x.1) then
  zND R fun hid => .call f (as.map fun a=>if a.byref then zGC (zDt R) a.p else a.p) (hid.map (zGC (zDt R))) fun v hO =>
   bif (as.flatMap (·.shared)).isEmpty||v.free&&zEE hO then
    zKr R<|zNK R hid (hO.map (zGC (zB7 R))) (zDk d (zGC (zB7 R) v))
   else again
 else .fail
def zNU (d:Option Nat) (f:FuncId) (args:List PV):PM :=
 zD0 (H f).mode args fun bs=>zCp (H f).mode bs fun as=>zRJ d f as (zEa (H f).mode bs fun as=>zRJ d f as .fail)
def zXi:List PV→Option PV
 | .int k a::r=>(r.foldl (fun m p=>match m,p with
  | some m,.int k' b=>if k=k' then some (if b>m then b else m) else none
  | _,_=>none) (some a)).map (.int k)
 | _=>none
def zWU:List PV→Option PV
 | .int k a::r=>(r.foldl (fun m p=>match m,p with
  | some m,.int k' b=>if k=k' then some (if b<m then b else m) else none
  | _,_=>none) (some a)).map (.int k)
 | _=>none
def zIw {α:Type} (x:Option α) (k:α→PM):PM :=
 match x with
 | some a=>k a
 | none => .fail
def zUe:PV→(Bool→PM)→PM
 | .bool b,k=>k b
 | _,_ => .fail
def zGl:PV→(Nat→PM)→PM
 | .int _ n,k=>if 0≤n then k n.toNat else .fail
 | _,_ => .fail
def zAZ:Nat:=4294967296
def zGn (r:Nat) (pre:zAQ):Nat→List PV→PM→PM
 | _,[],k=>k
 | i,y::ys,k=>zDS r pre i 0 y.cells (.wcells r pre i 0 y.cells (zGn r pre (i+1) ys k))
def zLy (d:Option Nat) (r:Nat) (pre:zAQ) (z lo n s:Nat) (xs ys:List PV):PM :=
 bif Nat.blt 0 z&&Nat.beq z s&&Nat.ble (lo+n+ys.length) xs.length&&ys.all (fun y=>y.plain) then zGn r pre (lo+n) ys (put d (.bor r pre z lo (n+ys.length))) else .fail
def zLt (d:Option Nat) (sz:Nat) (base:PV) (ys:List PV):PM :=
 bif ys.all (fun y=>Nat.beq y.cells.length sz&&y.cells.all fun q=>q.oneCell)&&(zBq ys).isEmpty then
 match base with
 | .bor r pre z lo n => .deep r pre fun q=>match q with
  | .own s xs =>
   bif Nat.beq s sz&&Nat.ble (lo+n) xs.length&&Nat.ble (xs.length+ys.length) zAZ then
    bif Nat.beq (lo+n) xs.length then
     bif Nat.beq lo 0 then .wnode r pre .bad (put d (.own sz (xs++ys))) else .fail
    else zLy d r pre z lo n s xs ys
   else .fail
  | _ => .fail
 | .nils _=>bif Nat.ble ys.length zAZ then put d (.own sz ys) else .fail
 | _ => .fail
 else .fail
def zNQ (x:Operand) (k:List PV→PM):PM :=
 match x with
 | .tmp t => .get t fun p=>match p with
  | .own _ xs => .set t .bad (k xs)
  | _ => .view t fun p=>zHd p fun xs=>if xs.all (fun x=>x.plain) then k xs else .fail
 | x=>opd x fun p=>zHd p fun xs=>if xs.all (fun x=>x.plain) then k xs else .fail
def zQ9 (d:Option Nat) (z:Option PV×Option Nat) (p:PV):PM :=
 match p,d,z.1,z.2 with
 | .bor r pre z lo n,none,some q,some s=>bif Nat.blt 0 z&&Nat.beq z s&&Nat.beq q.cells.length s&&q.plain then zGn r pre lo (List.replicate n q) .ok else .fail
 | .sl [],none,some _,some _ => .ok
 | .nils _,none,some _,some _ => .ok
 | _,_,_,_ => .fail
def zBj (d:Option Nat) (b:Builtin) (ts:List TypeId) (args:List Operand):PM :=
 match b,args,ts with
 | .len,[x],t::_=>opd x fun p=>match P.underlying t with
  | some (.array n _)=>put d (.int .i64 n)
  | some (.slice _)=>match lenOf p with
   | some n=>put d (.int .i64 n)
   | none => .fail
  | _ => .fail
 | .append,[x,y],[t,t2]=>bif (zBK P t2).isNone then .fail else match (zBK P t).bind (szT P),(zBK P t).bind (zHU P),(zBK P t).bind (zCz P) with
  | some sz,some by_,some z=>if by_≤16384∧z.cells.length=sz then opd x fun base=>zNQ y fun ys=>zLt d sz base ys else .fail
  | _,_,_ => .fail
 | .copy,[x,y],t::_=>zIw ((zBK P t).bind (szT P)) fun s=>opd x fun p=>opd y fun q=>zHd q fun ys=>match p with
  | .bor r pre z lo n=>bif Nat.beq z s&&Nat.blt 0 z&&Nat.ble ys.length n&&ys.all (fun y=>y.plain&&Nat.beq y.cells.length s) then zGn r pre lo ys (put d (.int .i64 ys.length)) else .fail
  | _ => .fail
 | .clear,[x],t::_=>opd x fun p=>zQ9 d ((zBK P t).bind (zCz P),(zBK P t).bind (szT P)) p
 | .max,xs,_=>zSy xs fun ps=>match zXi ps with
  | some v=>put d v
  | none => .fail
 | .min,xs,_=>zSy xs fun ps=>match zWU ps with
  | some v=>put d v
  | none => .fail
 | _,_,_ => .fail
def zFR (place:Nat→Option (Nat×Nat)):List PV→List (Nat×PV)→Option (List PV)
 | z,[]=>some z
 | z,(i,v)::r=>match place i with
  | some (off,n)=>if v.cells.length=n∧off+n≤z.length∧v.whole=true then zFR place (z.take off++v.cells++z.drop (off+n)) r else none
  | none=>none
def zO6 (place:Nat→Option (Nat×Nat)) (z:List PV) (ps:List (Nat×Operand)) (k:List PV→PM):PM :=
 zS8 (ps.map (·.2)) fun vs=>match zFR place z ((ps.map (·.1)).zip vs) with
  | some cs=>k cs
  | none => .fail
def zMQ (n:Nat) (z:PV) (ps:List (Nat×PV)):List PV :=
 ps.foldl (fun xs (i,v)=>xs.set i v) (List.replicate n z)
def zK4 (t:TypeId) (i:Nat):Option Field :=
 match P.underlying t with
 | some (.struct fs)=>fs[i]?
 | _=>none
def zO1 (p:PV) (off:Nat) (sh:Option Nat):Option PV :=
 match p with
 | .ref q=>match sub q off sh with
  | some x=>bif sh.isSome||x.oneCell then some (.ref x) else none
  | none=>none
 | .addr r pre i c (some _)=>some (.addr r pre i (c+off) sh)
 | _=>none
def zCd (p:PV) (off:Nat) (sh:Option Nat):Option PV :=
 match sh with
 | some 0=>none
 | sh=>zO1 p off sh
def zSp (x:Option Operand) (n:Nat) (k:Nat→PM):PM :=
 match x with
 | some x=>opd x fun p=>zGl p k
 | none=>k n
def zOJ (d:Option Nat) (s:Nat) (p:PV) (l h:Nat):PM :=
 match p with
 | .sl xs=>bif Nat.ble l h&&Nat.ble h xs.length&&xs.all (fun x=>Nat.beq x.cells.length s) then put d (.sl ((xs.drop l).take (h-l))) else .fail
 | .bor r pre z a n =>
  bif Nat.beq z s&&Nat.ble l h then
   bif Nat.ble h n then put d (bif Nat.beq l 0||Nat.blt l h then .bor r pre z (a+l) (h-l) else .sl [])
   else .deep r pre fun q=>match q with
    | .own _ xs=>bif Nat.ble (a+h) xs.length then put d (bif Nat.beq l 0||Nat.blt l h then .bor r pre z (a+l) (h-l) else .sl []) else .fail
    | _ => .fail
  else .fail
 | _ => .fail
def zRO (d:Option Nat) (n s:Nat) (sh:Option Nat) (p:PV) (l h:Nat):PM :=
 bif Nat.ble l h&&Nat.ble h n&&(Nat.beq l 0||Nat.blt l n) then
  match p with
  | .addr r pre i c _=>put d (.bsl r pre i (c+l*s) s sh.isSome (h-l))
  | .ref (.agg cs)=>bif Nat.ble (n*s) cs.length&&zCg sh.isSome s (h-l) ((cs.drop (l*s)).take ((h-l)*s))&&(zBq cs).isEmpty then put d (.sl (zCf sh.isSome s (h-l) ((cs.drop (l*s)).take ((h-l)*s)))) else .fail
  | _ => .fail
 else .fail
def zIH (d:Option Nat) (t:TypeId) (x:Operand) (lo hi mx:Option Operand):PM :=
 match mx with
 | some m=>opd x fun p=>match p,P.underlying t with
  | .bor _ _ _ _ n,some (.slice e)=>zIw (szT P e) fun _=>zSp (some m) n fun m=>match hi with
   | some hi=>zSp (some hi) n fun h=>zSp lo 0 fun l=>bif Nat.ble l h&&Nat.ble h m&&Nat.ble m n then put d .bad else .fail
   | none => .fail
  | _,_ => .fail
 | none=>opd x fun p=>match P.underlying t with
  | some (.array n e)=>match szT P e,shT P e with
   | some s,some sh=>zSp hi n fun h=>zSp lo 0 fun l=>zRO d n s sh p l h
   | _,_ => .fail
  | some (.slice e)=>match szT P e,lenOf p with
   | some s,some n=>zSp hi n fun h=>zSp lo 0 fun l=>zOJ d s p l h
   | _,_ => .fail
  | _ => .fail
def zNL (p:PV) (k:PV→PM) (k2:PM):PM :=
 match p with
 | .bor r pre _ lo n => .deep r pre fun q=>match q with
  | .own sz xs=>bif Nat.beq lo 0&&Nat.beq n xs.length then .wnode r pre .bad (k (.own sz xs)) else k2
  | _=>k2
 | .bmap r pre => .deep r pre fun q=>match q with
  | .omap es => .wnode r pre .bad (k (.omap es))
  | _=>k2
 | p=>k p
def zLW (p:PV) (k:PV→PM):PM:=zNL p k (zLE zAb zDq p k)
def zI1:List PV→(List PV→PM)→PM
 | [],k=>k []
 | p::ps,k=>zNL p (fun q=>zI1 ps fun qs=>k (q::qs)) .fail
def zFs (tk:Bool) (p:PV) (k:PV→PM):PM :=
 match p with
 | .agg cs=>bif tk then zI1 cs fun cs=>k (.agg cs) else bif cs.any (fun c=>match c with | .bor .. | .bmap .. | .bsl .. => true | _=>false) then zLE zAb zDq p k else k p
 | .bsl .. => zLE zAb zDq p k
 | .bor .. | .bmap .. => bif tk then zLW p k else zLE zAb zDq p k
 | p=>k p
def zFX (tk:Bool):List PV→(List PV→PM)→PM
 | [],k=>k []
 | p::ps,k=>zFs tk p fun q=>zFX tk ps fun qs=>k (q::qs)
def zRr (r:Nat) (pre:zAQ) (i c:Nat):PV→Option Nat
 | .bor r' q z 0 n=>if r'=r&&q=pre++[(i,c)] then some n else none
 | _=>none
def zHM (r:Nat) (pre:zAQ) (i c:Nat) (v:PV):PM :=
 bif (!v.heavy||v.ways.all (fun w => !(zAI r pre w.1 w.2&&Nat.blt pre.length w.2.length)))&&v.cells.all (fun q=>q.oneCell) && !v.cells.isEmpty then zDS r pre i c v.cells (.wcells r pre i c v.cells .ok) else .fail
def zIm (tk:Bool) (r:Nat) (pre:zAQ) (v:PV) (k:PV→PM):PM :=
 bif pre.isEmpty && !tk then .view r fun q=>(match q with | .addr .. => k v | _=>zFs tk v k) else zFs tk v k
def zHY (tk:Bool) (r:Nat) (pre:zAQ) (i c:Nat) (v:PV):PM :=
 match zRr r pre i c v with
 | some m => .deep r (pre++[(i,c)]) fun q=>match q with
  | .own s xs=>bif Nat.ble m xs.length then .wnode r (pre++[(i,c)]) .bad (zHM r pre i c (.own s ((xs.drop 0).take m))) else .fail
  | _ => .fail
 | none=>zIm tk r pre v fun v=>zHM r pre i c v
def zOs (fz tk:Bool) (t:TypeId) (a x:Operand):PM :=
 opd a fun pa=>match pa,x with
 | .addr r pre i c _,.const (.slice none 0 0)=>zIw ((zBK P t).bind (szT P)) fun s=>if szT P t=some 1 then zHY tk r pre i c (.own s []) else .fail
 | pa,x=>match pa,shT P t,szT P t with
 | .addr r pre i c _,some sh,some n=>(bif fz&&tk then opd x else zO9 x) fun v =>
  bif Nat.beq v.cells.length n&&v.isAgg==sh.isSome then zHY (tk && !fz) r pre i c (bif fz && !tk then zAR v else v) else .fail
 | _,_,_ => .fail
def zTX (d:Option Nat) (t:TypeId):PM :=
 match (zBK P t).bind (szT P) with
 | some s=>put d (.own s [])
 | none => .fail
def zMb (d:Option Nat) (t:TypeId) (s:Nat):PM :=
 match P.underlying t,d with
 | some (.tuple ts),some d' => .get s fun m=>match m with
  | .tup ps=>if ps.length=ts.size∧ts.size≤16 then .set d' .bad (zFO s d' 0 ts.size) else .fail
  | _ => .fail
 | _,_=>opd (.tmp s) (put d)
def zQp (d:Option Nat) (t:TypeId) (x:Operand):PM :=
 match x with
 | .const (.slice none 0 0)=>zTX P d t
 | .tmp s=>zMb P d t s
 | x=>opd x (put d)
def zFx (d:Option Nat) (p:PV):PM :=
 match d,p with
 | some d',.bor r [] z lo n=>if r=d' then .get r fun root=>match root with
   | .own sz xs=>bif Nat.ble (lo+n) xs.length then .kill r [] (.set r (.own sz ((xs.drop lo).take n)) .ok) else .fail
   | _ => .fail
  else put d p
 | _,_=>put d p
def zF5 (tk nl:Bool) (d:Option Nat) (t:TypeId) (x:Operand):PM :=
 match x with
 | .const (.slice none 0 0)=>bif nl then zIw ((zBK P t).bind (szT P)) fun s=>put d (.nils s) else zTX P d t
 | x=>zO9 x fun p=>bif tk then zLW p (zFx d) else zFx d p
def zUu (d:Option Nat) (c a b:Operand):PM:=opd c fun p=>zUe p fun t=>opd (if t then a else b) (put d)
def zRy (t:TypeId):PV→PV
 | .nils k=>match (zBK P t).bind (szT P) with
  | some s => .own s []
  | none => .nils k
 | z=>z
def zR8 (d:Option Nat) (t:TypeId):PM:=zIw (zCz P t) fun z=>put d (.box (zRy P t z))
def zTm (d:Option Nat) (t:TypeId) (x:Operand):PM:=zO9 x fun p=>match shT P t,szT P t with
 | some sh,some n=>if p.cells.length=n&&p.isAgg=sh.isSome&&p.whole then put d (.box p) else .fail
 | _,_ => .fail
def zM8 (d:Option Nat) (t:TypeId) (ps:List (Nat×Operand)):PM :=
 match P.underlying t,(zCz P t).map PV.cells with
 | some (.struct fs),some z=>bif fs.all (fun f=>(szT P f.type).isSome) then zO6 (fun i=>(fs[i]?).bind fun f=>(szT P f.type).map fun n=>(f.offset,n)) z ps (fun cs=>put d (.agg cs)) else .fail
 | some (.array _ e),some z=>zIw (szT P e) fun n=>zO6 (fun i=>some (i*n,n)) z ps fun cs=>put d (.agg cs)
 | _,_ => .fail
def zXf:Option PV→Option Nat
 | some (.own s [])=>some s
 | _=>none
def zWe (nz:Option Nat) (x:Operand) (k:PV→PM):PM :=
 match nz,x with
 | some s,.const (.slice none 0 0)=>k (.own s [])
 | _,x=>zO9 x k
def zPS (nz:Option Nat):List Operand→(List PV→PM)→PM
 | [],k=>k []
 | x::xs,k=>zWe nz x fun p=>zPS nz xs fun ps=>k (p::ps)
def zDK (tk:Bool) (d:Option Nat) (t:TypeId) (n:Nat) (ps:List (Nat×Operand)):PM :=
 match zBK P t with
 | some e=>match szT P e,zCz P e with
  | some s,some z=>if n*s≤65536&&Nat.beq z.cells.length s&&ps.all (fun x=>x.1<n) then zPS (zXf (zCz P e)) (ps.map (·.2)) fun vs=>zFX tk vs fun vs =>
    if (zBq vs).isEmpty&&vs.all (fun v=>v.cells.length=s&&v.isAgg=z.isAgg&&v.whole) then put d (.own s (zMQ n z ((ps.map (·.1)).zip vs))) else .fail
   else .fail
  | _,_ => .fail
 | none => .fail
def zP3 (d:Option Nat) (sh:Option Nat) (p:PV):PM :=
 match p with
 | .ref q=>if q.isAgg=sh.isSome&&q.cells.length=sh.getD 1 then put d q else .fail
 | .addr r pre i c _=>zMr r pre i c sh (put d)
 | _ => .fail
def zPi (tk:Bool) (d:Option Nat) (t:TypeId) (a:Operand):PM:=zIw (shT P t) fun sh=>opd a fun p =>
 bif tk then (match p with
  | .addr r pre i c _=>zMr r pre i c sh fun v=>zLE zAb zDq v (put d)
  | p=>zP3 d sh p) else zP3 d sh p
def zXr (d:Option Nat) (p:PV):PM :=
 match p with
 | .addr .. | .ref _ | .func .. | .yld _=>put d p
 | _ => .fail
def zTB (d:Option Nat) (op:BinOp) (t:TypeId) (x y:Operand):PM:=opd x fun p=>opd y fun q=>zIw (zJT P op t p q) (put d)
def unV (d:Option Nat) (op:UnOp) (p:PV):PM :=
 match op,p with
 | .not,.bool b=>put d (.bool !b)
 | .neg,.int k n=>put d (.int k (k.wrap (0-n)))
 | _,_ => .fail
def zRQ (d:Option Nat) (t:TypeId) (p:PV):PM :=
 match P.underlying t,p with
 | some (.int k),.int _ n=>put d (.int k (k.wrap n))
 | _,_ => .fail
def zKv (d:Option Nat) (f:FuncId) (first caps:List Operand):PM:=zSy first fun a=>zSy caps fun b=>put d (.func f a b)
def zE3 (d:Option Nat) (t:TypeId) (l c:Operand):PM :=
 opd l fun l=>zGl l fun l=>opd c fun c=>zGl c fun c=>match zBK P t with
 | some e=>match zCz P e,szT P e,zHU P e with
  | some z,some s,some b=>if l≤c∧c≤zAZ∧b≤16384∧z.cells.length=s then put d (.own s (List.replicate l z)) else .fail
  | _,_,_ => .fail
 | none => .fail
def zIA (d:Option Nat) (t:TypeId) (x:Operand) (i:Nat):PM :=
 opd x fun p=>zIw (zK4 P t i) fun f=>zIw (shT P f.type) fun sh=>zIw (zCd p f.offset sh) (put d)
def zSk (d:Option Nat) (t:TypeId) (x:Operand) (i:Nat):PM :=
 opd x fun p=>zIw (zK4 P t i) fun f=>zIw (shT P f.type) fun sh=>zIw (sub p f.offset sh) (put d)
def zOh (d:Option Nat) (n:Nat) (e:TypeId) (p:PV) (i:Nat):PM :=
 match szT P e,shT P e with
 | some s,some sh=>if i<n then zIw (zCd p (i*s) sh) (put d) else .fail
 | _,_ => .fail
def zQq (d:Option Nat) (e:TypeId) (p:PV) (i:Nat):PM :=
 match p with
 | .sl xs=>zIw (xs[i]?) fun x=>if szT P e=some x.cells.length then put d (.ref x) else .fail
 | .bor r pre z lo n=>match shT P e with
  | some sh=>if i<n∧szT P e=some z then put d (.addr r pre (lo+i) 0 sh) else .fail
  | none => .fail
 | .bsl r pre j c s ag n=>if i<n∧szT P e=some s then put d (.addr r pre j (c+i*s) (if ag then some s else none)) else .fail
 | _ => .fail
def zFh (d:Option Nat) (t:TypeId) (x i:Operand):PM :=
 opd x fun p=>opd i fun i=>zGl i fun i=>match P.underlying t with
 | some (.array n e)=>zOh P d n e p i
 | some (.slice e)=>zQq P d e p i
 | _ => .fail
def zKO (d:Option Nat) (t:TypeId) (x i:Operand):PM :=
 opd x fun p=>opd i fun i=>zGl i fun i=>match P.underlying t with
 | some (.array n e)=>match szT P e,shT P e with
  | some s,some sh=>if i<n then zIw (sub p (i*s) sh) (put d) else .fail
  | _,_ => .fail
 | _ => .fail
def PV.flat:PV→Bool
 | .agg cs=>cs.all PV.num
 | p=>p.num
def PV.lone0:PV→Bool
 | .int .. | .bool .. | .nilp | .nilf | .nilm | .nn | .nils _ | .sl .. | .map .. => true
 | _=>false
def PV.lone:PV→Bool
 | .agg cs=>cs.all PV.lone0
 | p=>p.lone0
def zJo:PV→PV
 | .own _ [] => .sl []
 | p=>p
def zTi (ok:TypeId→PV→Bool) (sh:TypeId→Option (Option Nat)) (p:PV):List Field→Bool
  | []=>true
  | f :: fs => (if f.name = "_" then true else match sh f.type with
    | some s=>match sub p f.offset s with
      | some a=>ok f.type a
      | none=>false
    | none=>false)&&zTi ok sh p fs
def zTh (ok:PV→Bool) (sh:Option Nat) (sz:Nat) (p:PV):Nat→Nat→Bool
 | _,0=>true
 | i,n+1=>(match sub p (i*sz) sh with
  | some a=>ok a
  | none=>false)&&zTh ok sh sz p (i+1) n
def zON:Nat→TypeId→PV→Bool
 | 0,_,_=>false
 | n + 1,t,p =>
  match P.underlying t,p with
  | some (.int _),.int .. => true
  | some .bool,.bool _=>true
  | some (.struct fs),.agg xs=>zTi (zON n) (shT P) (.agg xs) fs.toList
  | some (.array len e),.agg xs=>match szT P e,shT P e with
   | some sz,some sh=>zTh (zON n e) sh sz (.agg xs) 0 len
   | _,_=>false
  | _,_=>false
def zC3 (kt:TypeId) (key:PV):List (PV×PV)→Nat→Option (Option Nat)
 | [],_=>some none
 | (k,_)::es,i=>match eqT P 20 kt key k with
  | some true=>match zFH key.cells k.cells with
   | some true=>some (some i)
   | _=>none
  | some false=>zC3 kt key es (i+1)
  | none=>none
def zIR (d:Option Nat) (kt:TypeId) (z key:PV) (ok:Bool) (es:List (PV×PV)):PM :=
 match zC3 P kt key es 0 with
 | some (some i)=>match es[i]? with
  | some (_,v)=>bif v.lone then zDk d (if ok then .tup [v,.bool true] else v) else .fail
  | none => .fail
 | some none=>zDk d (if ok then .tup [z,.bool false] else z)
 | none => .fail
def zTt (d:Option Nat) (kt:TypeId) (z key:PV) (ok:Bool) (m:PV):PM :=
 match m with
 | .nilm=>zIR P d kt z key ok []
 | .map es=>zIR P d kt z key ok es
 | .bmap r pre => .deep r pre fun q=>match q with
  | .omap es=>zIR P d kt z key ok es
  | _ => .fail
 | _ => .fail
def zIi (d:Option Nat) (t:TypeId) (m x:Operand) (ok:Bool):PM :=
 opd m fun m=>opd x fun key=>match P.underlying t with
 | some (.map kt e)=>bif zON P 20 kt key then zIw (zCz P e) fun z=>bif (zJo z).lone then zTt P d kt (zJo z) key ok m else .fail else .fail
 | _ => .fail
def zMm (kt:TypeId) (key v m:PV):PM :=
 match m with
 | .bmap r pre=>bif v.lone then .deep r pre fun q=>match q with
  | .omap es=>match zC3 P kt key es 0 with
   | some (some i) => .wnode r pre (.omap (es.modify i fun _=>(key,v))) .ok
   | some none => .wnode r pre (.omap (es++[(key,v)])) .ok
   | none => .fail
  | _ => .fail else .fail
 | _ => .fail
def zE0 (t:TypeId) (m x y:Operand):PM:=opd m fun m=>opd x fun key=>match P.underlying t with
 | some (.map kt _)=>bif zON P 20 kt key&&key.flat then zO9 y fun v=>zLE zAb zDq v fun v=>zMm P kt key (zAR v) m else .fail
 | _ => .fail
def zPb (d:Option Nat) (kt:TypeId) (z key m:PV):PM :=
 match m with
 | .bmap r pre => .deep r pre fun q=>match q with
  | .omap es=>match zC3 P kt key es 0 with
   | some (some i)=>match es[i]? with
    | some (_,v)=>bif v.lone then .wnode r pre (.omap (es.modify i fun _=>(key,v))) (zDk d (.tup [v,.int .i64 i])) else .fail
    | none => .fail
   | some none => .wnode r pre (.omap (es++[(key,z)])) (zDk d (.tup [z,.int .i64 es.length]))
   | none => .fail
  | _ => .fail
 | _ => .fail
def zF8 (d:Option Nat) (t:TypeId) (m x:Operand):PM:=opd m fun m=>opd x fun key=>match P.underlying t with
 | some (.map kt el)=>bif zON P 20 kt key&&key.flat then zIw (zCz P el) fun z=>bif (zJo z).lone then zPb P d kt (zJo z) key m else .fail else .fail
 | _ => .fail
def zIh (i:Nat) (v m:PV):PM :=
 match m with
 | .bmap r pre=>bif v.lone then .deep r pre fun q=>match q with
  | .omap es=>match es[i]? with
   | some (k,_) => .wnode r pre (.omap (es.modify i fun _=>(k,v))) .ok
   | none => .fail
  | _ => .fail else .fail
 | _ => .fail
def zEn (m s y:Operand):PM:=opd m fun m=>opd s fun s=>zGl s fun i=>zO9 y fun v=>zLE zAb zDq v fun v=>zIh i (zAR v) m
def zIT (d:Option Nat) (s i:Nat):PM := .get s fun m=>match m with
 | .tup ps=>bif Nat.blt i ps.length then .get (zBm s i) fun p=>bif p.heavy then .set (zBm s i) .bad (put d p) else put d p else .fail
 | _ => .fail
def zTJ (d:Option Nat) (args:List Operand) (g:PV):PM :=
 match g with
 | .func g first caps=>zSy args fun as=>zNU H d g (first++as++caps)
 | _ => .fail
def zJp (d:Option Nat) (c:Call):PM :=
 match c.callee with
 | .builtin b=>zBj P d b c.argTypes.toList c.args.toList
 | .value f=>opd f (zTJ H d c.args.toList)
 | _ => .fail
def opM (fz tk nl:Bool) (o:Oper):PM :=
 match o.op with
 | .move x=>zQp P o.dst o.type x
 | .assign x=>zF5 P tk nl o.dst o.type x
 | .pick c a b=>zUu o.dst c a b
 | .alloc t=>zR8 P o.dst t
 | .box t x=>zTm P o.dst t x
 | .build t ps=>zM8 P o.dst t ps.toList
 | .buildSlice t n ps=>zDK P tk o.dst t n ps.toList
 | .load t a=>zPi P tk o.dst t a
 | .store t a x=>zOs P fz tk t a x
 | .nilCheck x=>opd x (zXr o.dst)
 | .binOp op t x y _=>zTB P o.dst op t x y
 | .unOp op _ x=>opd x (unV o.dst op)
 | .convert _ t x=>opd x (zRQ P o.dst t)
 | .makeFunc (.func f) first caps=>zKv o.dst f first.toList caps.toList
 | .makeMap _ none=>put o.dst (.omap [])
 | .makeSlice t l c=>zE3 P o.dst t l c
 | .slice t x lo hi mx=>zIH P o.dst t x lo hi mx
 | .fieldAddr t x i=>zIA P o.dst t x i
 | .field t x i=>zSk P o.dst t x i
 | .indexAddr t x i=>zFh P o.dst t x i
 | .index t x i=>zKO P o.dst t x i
 | .lookup t m x ok=>zIi P o.dst t m x ok
 | .mapUpdate t m x y=>zE0 P t m x y
 | .mapEntry t m x=>zF8 P o.dst t m x
 | .entryStore _ m s x=>zEn m s x
 | .extract (.tmp s) i=>zIT o.dst s i
 | .call c=>zJp P H o.dst c
 | _ => .fail
def zFM (ops:Array Oper) (fz tk nl:Bool) (o:Oper):PM :=
 match o.guard with
 | none=>opM P H fz tk nl o
 | some (j,want)=>match (ops[j]?).bind (·.dst) with
  | some t => .get t fun p=>match p with
   | .bool b=>if b=want then opM P H fz tk nl o else put o.dst .und
   | .und=>put o.dst .und
   | _ => .fail
  | none => .fail
structure Log where
 xs:List (List PV)
 k:Int
 at_:Nat
 deriving Inhabited
def zPP (e:Env):Operand→PV
 | .tmp t=>view t (e.get t)
 | .const v=>zEs v
 | _ => .bad
def zB6 (e:Env) (o:Oper):Option (Nat×List PV) :=
 match o.op with
 | .call c=>match c.callee with
  | .value (.tmp t)=>match e.get t with
   | .yld h=>some (h,c.args.toList.map (zPP e))
   | _=>none
  | _=>none
 | _=>none
def zLC (ops:Array Oper) (e:Env) (o:Oper):Option Bool :=
 match o.guard with
 | none=>some true
 | some (j,want)=>match (ops[j]?).bind (·.dst) with
  | some t=>match e.get t with
   | .bool b=>some (b==want)
   | .und=>some false
   | _=>none
  | none=>none
def zBJ (orc:zAC) (ops:Array Oper) (o:Oper) (h:Nat) (args:List PV) (l:Log) (e:Env):Option (Env×Option Log) :=
 match zLC ops e o with
 | some true=>bif args.all PV.flat&&l.k != 0&&Nat.beq h l.at_ then
   (bif l.k==1 then (put o.dst (.bool false)).run orc (e.forget zAb) else (put o.dst (.bool true)).run orc e).map fun e'=>(e',some ⟨l.xs++[args],l.k-1,l.at_⟩)
  else none
 | some false=>((put o.dst .und).run orc e).map fun e'=>(e',some l)
 | none=>none
def zCE (orc:zAC) (fz tk nl:Bool) (ops:Array Oper) (o:Oper) (e:Env) (lg:Option Log):Option (Env×Option Log) :=
 match lg with
 | none=>((zFM P H ops fz tk nl o).run orc e).map fun e'=>(e',none)
 | some l=>match zB6 e o with
  | some (h,args)=>zBJ orc ops o h args l e
  | none=>((zFM P H ops fz tk nl o).run orc e).map fun e'=>(e',some l)
def zEf (orc:zAC) (fz tk nl:Bool) (ops:Array Oper) (o:Oper) (e:Env) (lg:Option Log):Option (Env×Option Log×Tok) :=
 match lg with
 | none=>((zFM P H ops fz tk nl o).runT orc e).map fun x=>(x.1,none,x.2)
 | some l=>match zB6 e o with
  | some (h,args)=>(zBJ orc ops o h args l e).map fun x=>(x.1,x.2,{all:=true})
  | none=>((zFM P H ops fz tk nl o).runT orc e).map fun x=>(x.1,some l,x.2)
def zA5 (orc:zAC) (fzs tks:List Nat) (nl:Bool) (ops:Array Oper):List Oper→Nat→Env→Option Log→Option (Env×Option Log)
 | [],_,e,lg=>some (e,lg)
 | o::l,i,e,lg=>match zCE P H orc (fzs.contains i) (tks.contains i) nl ops o e lg with
  | some (e',lg')=>zA5 orc fzs tks nl ops l (i+1) e' lg'
  | none=>none
def zHS (acc:List Nat) (o:Oper):Nat:=o.after.toList.foldl (fun s e=>if Region.binds .any e then s ||| 2 ^ e.on ||| acc.getD e.on 0 else s) 0
def zF3 (b:Nat) (t:Tok):Nat→List Tok→Bool
 | _,[]=>true
 | j,u::us=>(b.testBit j || !zPK u t)&&zF3 b t (j+1) us
def zCi (orc:zAC) (fzs tks:List Nat) (nl:Bool) (ops:Array Oper):List Oper→Nat→List Nat→List Tok→Env→Option Log→Option (Env×Option Log)
 | [],_,_,_,e,lg=>some (e,lg)
 | o :: l,i,acc,ts,e,lg =>
  match zEf P H orc (fzs.contains i) (tks.contains i) nl ops o e lg with
  | some (e',lg',t) =>
   bif o.after.toList.all (fun e => !Region.binds .any e||Nat.blt e.on i)&&zF3 (zHS acc o) t 0 ts then zCi orc fzs tks nl ops l (i+1) (acc++[zHS acc o]) (ts++[t]) e' lg' else none
  | none=>none
inductive X where
 | norm | ex (id:Nat) | ret
 deriving DecidableEq
def zMp (l:List Nat) (s:Nat):Bool:=l.contains (if 2000000≤s then (s-2000000) / 16 else s)
def Env.drop (e:Env) (l:List Nat):Env :=
 e.filter fun x => !zMp l x.1
def Env.put (e:Env) (k:Nat) (v:PV):Env :=
 match v with
 | .bad=>e.filter fun x => !Nat.beq x.1 k
 | v=>e.set k v
def Env.norm:Env→Env
 | []=>[]
 | (k,v)::e=>(Env.norm e).put k v
def zAN:Code→Nat
 | .region id _ _=>id
 | .seq a _=>zAN a
 | .block _ b=>zAN b
 | .loop b=>zAN b
 | _=>0
def zBI:Code→List Nat
 | .region _ ops _=>ops.toList.filterMap (·.dst)
 | .seq a b=>zBI a++zBI b
 | .cond _ a b=>zBI a++zBI b
 | .block _ b=>zBI b
 | .loop b=>zBI b
 | .scope b=>zBI b
 | _=>[]
def zCj:List Tmp→List PV→Env→Option Env
 | [],[],e=>some e
 | t::ts,v::vs,e=>if (e.get t).heavy then none else zCj ts vs (e.set t v)
 | _,_,_=>none
def zEp:List Nat→Env→Option Env
 | [],e=>some e
 | r::R,e=>bif Nat.blt r zAb then match e.frz r [] with
  | some e'=>zEp R e'
  | none=>none
  else none
def zV2 (R:List Nat) (e:Env):Env :=
 match zEp R e with
 | some e'=>e'
 | none=>e
def zCL (e:Env) (R:List Nat):List Nat:=R++(e.filter fun x=>x.2.heavy && !R.contains x.1&&x.2.ways.any fun w=>R.contains w.1).map (·.1)
def zFW (e:Env) (R:List Nat):Bool:=R.all fun r=>(e.get r).ways.all fun w=>R.contains w.1
def after (nt:Nat) (R ds:List Nat) (e0 e:Env):Env:=e0.map fun x =>
 (x.1,bif R.contains x.1 || !x.2.heavy&&x.2.ways.all (fun w=>R.contains w.1) then x.2 else bif !(Nat.blt x.1 nt && !ds.contains x.1||Nat.ble zAn x.1&&Nat.blt x.1 zAw) then .bad else bif (R.isEmpty||(e.get x.1).free) && !(e.get x.1).isTup then e.get x.1 else .bad)
def zC1 (nt:Nat) (run:Code→Env→Option (X×Env)) (ps:List Tmp) (assign body:Code) (R ds:List Nat):List (List PV)→Env→Nat→Option (Option (Nat×X)×Env)
 | [],e,_=>some (none,e)
 | x :: xs,e,j =>
  let round (e:Env):Option (X×Env):=match zCj ps x e with
   | some e1=>match run assign e1 with
    | some (.norm,e2)=>run body e2
    | _=>none
   | none=>none
  match round e with
  | some (.norm,e3)=>match R with
   | []=>zC1 nt run ps assign body R ds xs (after nt [] ds e e3) (j+1)
   | r :: R=>match (bif zFW e (zCL e (r::R)) then zEp (zCL e (r::R)) e else none) with
    | some e1=>match round e1 with
     | some (.norm,e3)=>zC1 nt run ps assign body (r::R) ds xs (after nt (zCL e (r::R)) ds e e3) (j+1)
     | _=>none
    | none=>none
  | some (r,e3)=>some (some (j+1,r),after nt [] ds e e3)
  | none=>none
def zDO (e:Env) (t:Nat):Option (FuncId×List PV×List PV×List Nat) :=
 match (zPG (view t (e.get t)) fun q l => .set 0 (.tup [q]) (.set 1 (.tup (l.map fun x => .int .i64 x.1)) .ok)).run (fun _ _ _=>none) e with
 | some e'=>match e'.get 0,e'.get 1 with
  | .tup [.func g first caps],.tup l=>some (g,first,caps,(l.filterMap fun | .int _ n=>some n.toNat | _=>none).eraseDups)
  | _,_=>none
 | none=>none
abbrev zCF:=FuncId→List PV→Nat→List PV→Int→Option (List (List PV))
abbrev All:=(Nat→Option (List (List PV)))→Option (List (List PV))
def zGP (nt:Nat) (yo:zCF) (al:All) (run:Code→Env→Option (X×Env)) (t:Tmp) (ps:List Tmp) (assign body:Code) (e:Env):Option (X×Env) :=
 match zDO e t with
 | some (g,first,caps,R) =>
  match al (fun i=>yo g first i caps (-1)) with
  | some xs=>match zC1 nt run ps assign body R (ps++zBI assign++zBI body) xs e 0 with
   | some (none,e')=>some (.norm,e')
   | some (some (j,_),_)=>match al (fun i=>yo g first i caps j) with
    | some ys=>match zC1 nt run ps assign body R (ps++zBI assign++zBI body) ys e 0 with
     | some (some (j',r),e')=>if j'=j∧ys.length=j then some (r,e') else none
     | _=>none
    | none=>none
   | none=>none
  | none=>none
 | none=>none
def exec (orc:zAC) (yo:zCF) (al:All) (nt:Nat) (h:FHint):Nat→Code→Env→Option Log→Option (X×Env×Option Log)
 | 0,_,_,_=>none
 | n + 1,c,e,lg=>match c with
  | .skip=>some (.norm,e,lg)
  | .region id ops draw=>match (if draw then zCi P H orc (h.frzs id) (h.take id) h.nils ops ops.toList 0 [] [] e lg else zA5 P H orc (h.frzs id) (h.take id) h.nils ops ops.toList 0 e lg) with
   | some (e',lg')=>some (.norm,(e'.drop (h.drop id)).norm,lg')
   | none=>none
  | .seq a b=>match exec orc yo al nt h n a e lg with
   | some (.norm,e',lg')=>exec orc yo al nt h n b e' lg'
   | r=>r
  | .cond c a b=>match c with
   | .tmp t=>match e.get t with
    | .bool true=>exec orc yo al nt h n a e lg
    | .bool false=>exec orc yo al nt h n b e lg
    | _=>none
   | .const (.bool true)=>exec orc yo al nt h n a e lg
   | .const (.bool false)=>exec orc yo al nt h n b e lg
   | _=>none
  | .block id b=>match exec orc yo al nt h n b e lg with
   | some (.ex id',e')=>some (if id'=id then .norm else .ex id',e')
   | r=>r
  | .loop b=>match exec orc yo al nt h n b (e.drop (h.loopDrop (zAN b))) lg with
   | some (.norm,e',lg')=>exec orc yo al nt h n (.loop b) e' lg'
   | r=>r
  | .exit id=>some (.ex id,zV2 (h.ices id) e,lg)
  | .ret=>some (.ret,e,lg)
  | .label _=>some (.norm,e,lg)
  | .scope b=>exec orc yo al nt h n b e lg
  | .rangeFunc (.tmp t) ps assign body=>match lg with
   | none=>(zGP nt yo al (fun c e=>match exec orc yo al nt h n c e none with | some (x,e',none)=>some (x,e') | _=>none) t ps.toList assign body e).map fun x=>(x.1,x.2,none)
   | some _=>none
  | _=>none
def zRU (p:PV) (k:PV→PM) (k2:PM):PM :=
 match p with
 | .bor r pre _ lo n => .deep r pre fun q=>match q with
  | .own sz xs=>bif Nat.ble (lo+n) xs.length then .wnode r pre .bad (k (.own sz ((xs.drop lo).take n))) else k2
  | _=>k2
 | .addr r pre 0 0 _ => .deep r pre fun q=>match q with
  | .box q => .wnode r pre .bad (k (.box q))
  | _=>k2
 | .bmap r pre => .deep r pre fun q=>match q with
  | .omap es => .wnode r pre .bad (k (.omap es))
  | _=>k2
 | _=>k2
def zFQ (frz:Bool) (p:PV) (k:PV→PM):PM :=
 bif frz||p.ways.any (fun w=>Nat.ble zAn w.1) then zLE zAn zDq p k else zRU p k (zLE zAn zDq p k)
def zCn (frz:Bool):List PV→(List PV→PM)→PM
 | [],k=>k []
 | p::ps,k=>zFQ frz p fun q=>zCn frz ps fun qs=>k (q::qs)
def zGt (frz:Bool) (p:PV) (k:PV→PM):PM :=
 match p with
 | .agg cs=>zCn frz cs fun qs=>k (.agg qs)
 | p=>zFQ frz p k
def zCA (frz:Bool):Nat→List ResultVar→PM
 | _,[] => .ok
 | j,.tmp t::rs => .view t fun p=>zGt frz p fun q=>lay (zAw+j) q (zCA frz (j+1) rs)
 | j,.cell a t::rs=>zIw (shT P t) fun sh => .view a fun p=>match p with
  | .addr r pre i c _=>zMr r pre i c sh fun v=>zGt frz v fun q=>lay (zAw+j) q (zCA frz (j+1) rs)
  | _ => .fail
def zVq (e:Env) (n:Nat):PV :=
 if n=1 then e.get zAw else .tup ((List.range n).map fun j=>e.get (zAw+j))
def zA4 (args hid:List PV):Env :=
 (args.zipIdx.map fun (p,i)=>(i,p))++hid.zipIdx.map fun (p,j)=>(zAn+j,p)
def zHX (xs:List PV):Option (List Int):=xs.mapM fun | .int .i64 n=>some n | _=>none
def intrin (fn:Func) (w:Nat) (args hid:List PV):Option (PV×List PV) :=
 match w,args,hid with
 | 1,[.sl xs],[]=>match (fn.resultTypes[0]?).bind (fun t=>(zBK P t).bind (szT P)) with
  | some sz=>if xs.all (fun x=>x.plain&&x.cells.length=sz)&&xs.length≤zAZ then some (.own sz xs,[]) else none
  | none=>none
 | 1,[.nils _],[]=>match (fn.resultTypes[0]?).bind (fun t=>(zBK P t).bind (szT P)) with
  | some sz=>some (.own sz [],[])
  | none=>none
 | 2,[.bor r [] 1 0 n],[.own 1 xs]=>match zHX xs with
  | some is=>if r=zAn∧n=is.length∧is.length≤zAZ then some (.tup [],[.own 1 ((is.mergeSort (fun a b=>decide (a≤b))).map (.int .i64))]) else none
  | none=>none
 | 3,[.own sz xs,.int _ i,.int _ j],[] =>
  bif decide (0≤i)&&decide (i≤j)&&Nat.ble j.toNat xs.length then some (.own sz (xs.take i.toNat++xs.drop j.toNat),[]) else none
 | 5,[.int .u64 n],[]=>some (.int .i64 (if n≤0 then 0 else Nat.log2 n.toNat+1),[])
 | _,_,_=>none
def zIS (orc:zAC) (yo:zCF) (al:All) (n:Nat) (f:FuncId) (fn:Func) (body:Code) (args hid:List PV):Option (PV×List PV) :=
 bif Nat.ble args.length fn.ntmps&&Nat.ble hid.length 1000&&args.all (fun p => !p.isTup) then
  match exec P H orc yo al fn.ntmps (H f) n body (zA4 args hid) none with
  | some (.norm,e,none) | some (.ret,e,none) =>
   match (zCA P (H f).frz 0 fn.results.toList).run orc e with
   | some e'=>bif Nat.beq fn.results.size 1&&(e'.get zAw).isTup then none else some (zVq e' fn.results.size,(List.range hid.length).map fun j=>e'.get (zAn+j))
   | none=>none
  | _=>none
 else none
def zHE (orc:zAC) (yo:zCF) (al:All) (n:Nat) (f:FuncId) (args hid:List PV):Option (PV×List PV) :=
 match P.funcs[f]? with
  | some fn=>if (H f).intr≠0 then intrin P fn (H f).intr args hid else match fn.body with
   | some body=>zIS P H orc yo al n f fn body args hid
   | none=>none
  | none=>none
def zWi (orc:zAC) (yo:zCF) (al:All) (n:Nat) (f:FuncId) (first:List PV) (i:Nat) (caps:List PV) (k:Int):Option (List (List PV)) :=
 match P.funcs[f]? with
  | some fn=>match fn.body with
   | some body=>bif Nat.ble (first++PV.yld i::caps).length fn.ntmps&&fn.results.isEmpty&&(first++caps).all (fun p => !p.isTup)&&k != 0&&Nat.beq (H f).intr 0 then
     match exec P H orc yo al fn.ntmps (H f) n body (zA4 (first++PV.yld i::caps) []) (some ⟨[],k,i⟩) with
     | some (.norm,_,some l) | some (.ret,_,some l)=>some l.xs
     | _=>none
    else none
   | none=>none
  | none=>none
def zQo (al:All):Nat→zAC×zCF
 | 0=>(fun _ _ _=>none,fun _ _ _ _ _=>none)
 | n+1=>(fun f args hid=>zHE P H (zQo al n).1 (zQo al n).2 al (n+1) f args hid,fun f first i caps k=>zWi P H (zQo al n).1 (zQo al n).2 al (n+1) f first i caps k)
open Classical in
noncomputable def zBZ:All:=fun x=>if h:∃ r,∀ i,x i=some r then some (Classical.choose h) else none
class Yo where
 yo:zCF
noncomputable def zCH [Yo]:Nat→zAC
 | 0=>fun _ _ _=>none
 | n+1=>fun f args hid=>zHE P H (zCH n) Yo.yo zBZ (n+1) f args hid
end Go.Eng
namespace Go.Eng
def zAA:List (Nat×List Nat)→Nat→List Nat
 | [],_=>[]
 | (k,l)::r,i=>bif Nat.beq k i then l else zAA r i
def zWT:List (Nat×FHint)→Nat→FHint
 | [],_=>{}
 | (k,h)::r,i=>bif Nat.beq k i then h else zWT r i
end Go.Eng
namespace Go.Eng
open Go
def rg (a:Nat):Nat→List Nat
 | 0=>[]
 | n+1=>a::rg (a+1) n
def zZ4:FHint:={drop:=zAA [(0,[0,8]),(1,[16,17]),(2,[19]),(3,rg 20 5),(4,[27,28,29,32]),(5,rg 34 4++[40]),(6,rg 12 4++rg 41 8),(8,rg 51 4++[57]),(9,[2,3]++rg 59 5++[66]),(10,[1]++rg 11 5++rg 67 21)]}
def zZN:FHint:={drop:=zAA [(0,[0,4]),(1,[1]++rg 7 20),(6,[6,35,36]),(8,[38])],loopDrop:=zAA [(4,[4,6]++rg 32 7)]}
def zZx:FHint:={drop:=zAA [(0,[0]),(1,[17]),(2,[20,21,24]),(3,rg 25 6),(4,[32,33,36]),(5,[9]++rg 37 6),(6,rg 3 6++[10]++rg 43 31),(8,[76,77,78,81]),(9,rg 82 6),(10,[2,89,90,93]),(11,[95,98]),(12,[4,6,8]++rg 10 5++rg 99 34)]}
def zZ5:FHint:={drop:=zAA [(0,[0]),(1,rg 3 12)]}
def zZE:FHint:={drop:=zAA [(0,[0]),(1,rg 6 9),(4,[20,21]),(5,rg 22 6),(6,[28]),(7,[29])],loopDrop:=zAA [(3,[5]++rg 19 10)],take:=zAA [(5,[3]),(7,[1])]}
def zZO:FHint:={drop:=zAA [(0,[2]),(1,[4,5]),(2,[0,7,8,9])],take:=zAA [(3,[1])]}
def zZw:FHint:={drop:=zAA [(0,[2]),(4,[10,11]),(5,[12,13,14]),(6,[16])],loopDrop:=zAA [(3,[5]++rg 9 6++[16])],take:=zAA [(5,[2]),(7,[1])]}
def zZv:FHint:={drop:=zAA [(0,[0,6,7]),(1,[1,11,12,13,16]),(2,[17]),(3,[9,19]),(4,[2,8]++rg 20 4)],take:=zAA [(3,[2])]}
def zZY:FHint:={drop:=zAA [(0,[0,6,7]),(1,[1,2,14,15,16,19]),(2,[20]),(3,[9,22]),(7,[27,28]),(8,rg 29 7),(9,rg 37 4),(10,[42]),(11,[10,43])],loopDrop:=zAA [(6,[12]++rg 26 15++[42])],take:=zAA [(3,[2])]}
def zZt:FHint:={drop:=zAA [(0,[4]),(1,[0,1,5,6,7])]}
def zZ9:FHint:={drop:=zAA [(0,[0,4,5]),(1,[1,12,13,16]),(2,[17]),(3,[7,19]),(4,[20,21]),(5,[22,23,24]),(6,[25,26]),(7,[28,29,30]),(8,[31]),(9,[32,33]),(11,[34]),(12,[8,35])],loopDrop:=zAA [(6,rg 25 10)]}
def zZ8:FHint:={drop:=zAA [(0,[0,4,5]),(1,[1,12,13,16]),(2,[17]),(3,[7,19]),(4,[20,21]),(7,[24]),(8,rg 25 4),(9,[10,30,31]),(10,[32,33,34]),(11,[35]),(12,[6]++rg 36 4),(14,[8,41])],loopDrop:=zAA [(6,[10]++rg 23 13)]}
def zZ6:FHint:={drop:=zAA [(0,[0,1,4]),(1,rg 5 26)]}
def zZK:FHint:={drop:=zAA [(0,[4]),(1,[0,1,5,6,7])]}
def zZM:FHint:={drop:=zAA [(0,[2]),(1,[4,5]),(2,[0,7,8,9])],take:=zAA [(3,[1])]}
def zZP:FHint:={drop:=zAA [(0,[0,3,8,9]),(1,[1,18,19,22]),(2,[24,25]),(3,[11,26]),(4,rg 28 10),(6,rg 38 6),(7,[44,45,46]),(8,rg 47 11),(9,[59,60]),(11,rg 62 11),(12,[2,73,74]),(13,[75,76,77]),(14,[78]),(15,[80,81]),(16,rg 82 4),(18,rg 88 9),(19,[16]++rg 98 4),(21,[102])],loopDrop:=zAA [(8,[8,9]++rg 47 26),(14,[16]++rg 78 25)],take:=zAA [(3,[2]),(12,[1]),(19,[1]),(22,[1])]}
def zZF:FHint:={drop:=zAA [(0,[0,4]),(1,[7,8]),(2,[9]),(3,[5,11]),(4,[12,13]),(7,[15,16,17]),(8,[19,20]),(9,rg 21 21)],loopDrop:=zAA [(7,[4]++rg 15 28)],take:=zAA [(3,[1])]}
def zZu:FHint:={drop:=zAA [(0,[0,8,9]),(1,[1,16,17,18,21]),(2,[23,24]),(3,[11,25]),(4,rg 27 4),(7,[2,3,10,31,32]),(9,[38]),(10,[39]),(11,[14,41,42,43]),(12,[45]),(13,[46,47])],loopDrop:=zAA [(8,[14]++rg 37 7++[45])],take:=zAA [(3,[2]),(11,[2]),(14,[1])]}
def zZ1:FHint:={drop:=zAA [(0,[4]),(1,[0,1,5,6,7,8])]}
def zZD:FHint:={drop:=zAA [(0,[3,4]),(1,[0,2]++rg 5 6)],mode:=[1],intr:=2}
def zZQ:FHint:={drop:=zAA [(0,[0,8,9]),(1,[1,2,19,20,21,22,26,27]),(2,[28]),(3,[13,30]),(5,[31,32]),(7,[36]),(8,rg 37 7),(9,[15]++rg 46 8++[56]),(10,[17,57]),(12,[16,59,60]),(13,[62])],loopDrop:=zAA [(6,[8,9,15,16,17]++rg 35 26++[62])],take:=zAA [(3,[2]),(14,[1])]}
def zZX:FHint:={drop:=zAA [(0,[4]),(1,[0,1,5,6,7,8])]}
def zZ7:FHint:={drop:=zAA [(0,[2]),(1,[3]),(3,[0,5,6])],intr:=1}
def zZs:FHint:={drop:=zAA [(0,[4]),(1,[0,1,5,6,7])]}
def zZz:FHint:={drop:=zAA [(0,[2]),(1,[3]),(3,[0,5,6])],intr:=1}
def zZZ:FHint:={drop:=zAA [(0,[0,6,7]),(1,[14,15,18]),(2,[20,21]),(3,[9,22]),(4,rg 24 4),(9,[32,33]),(10,rg 34 4),(11,rg 39 4),(12,[44]),(13,[45,46]),(14,[10,47])],loopDrop:=zAA [(8,[12]++rg 31 12++[44])],take:=zAA [(3,[2])]}
def zZB:FHint:={drop:=zAA [(0,[0,6,7]),(1,[11,12,13]),(2,[14]),(3,[8,16]),(4,rg 17 4),(8,rg 22 4),(9,[27,28]),(10,rg 29 4),(11,[34,35,36])],loopDrop:=zAA [(8,rg 22 15)],take:=zAA [(3,[2]),(12,[1])]}
def zZr:FHint:={drop:=zAA [(0,[0,8,9]),(1,rg 11 4),(2,[15]),(3,[10,17]),(4,rg 18 4),(6,[1,2,3]++rg 23 6)],take:=zAA [(3,[2])]}
def zZL:FHint:={drop:=zAA [(0,[0,2]),(1,rg 5 23),(3,[29,30]),(4,[31]),(5,[3,33]),(6,[34,35]),(7,[36]),(8,[4,38]),(9,rg 40 5),(11,rg 46 4)],take:=zAA [(5,[1]),(8,[1])]}
def zZJ:FHint:={drop:=zAA [(0,[4]),(1,[0,1,5,6,7])]}
def zZS:FHint:={drop:=zAA [(0,[1,4]),(1,[0,5,6,7,8])]}
def zZV:FHint:={drop:=zAA [(0,[1]),(1,rg 3 11),(2,[14,15,16])],take:=zAA [(2,[4])]}
def zZG:FHint:={drop:=zAA [(0,[0,2,3]),(1,[10,13]),(2,[14]),(3,[5,16]),(7,[22,23,24]),(8,rg 25 12),(9,[7,38,39,40]),(10,[42])],loopDrop:=zAA [(6,[7,8]++rg 21 20++[42])],take:=zAA [(3,[2]),(9,[2]),(11,[1])]}
def zZy:FHint:={drop:=zAA [(0,[2]),(1,[4,5]),(2,[0,7,8,9])],take:=zAA [(3,[1])]}
def zZR:FHint:={drop:=zAA [(0,[2]),(1,[4,5]),(2,[0,7,8,9])],take:=zAA [(3,[1])]}
def zZ3:FHint:={drop:=zAA [(0,[2]),(1,[6,7]),(4,[13]),(5,[4,5]++rg 16 5),(6,[21])],loopDrop:=zAA [(3,[4,5]++rg 12 10)],take:=zAA [(7,[1])]}
def zZ2:FHint:={drop:=zAA [(0,[0,6,7]),(1,[1,11,12,15]),(2,[2]++rg 16 6),(4,[23]),(5,[9,25])],take:=zAA [(5,[2]),(6,[1])],frz:=true}
def zZH:FHint:={drop:=zAA [(0,[1,4]),(2,rg 8 4),(4,[15]),(5,rg 16 5),(7,[24]),(8,rg 25 21),(9,[7]++rg 47 5),(10,[53]),(11,[54])],loopDrop:=zAA [(3,[6,7]++rg 14 38++[53,54]),(6,[7]++rg 23 29++[53])],take:=zAA [(12,[1])]}
def zZW:FHint:={drop:=zAA [(1,[6,7]),(2,[1]),(4,[11,12,13]),(5,[14]),(6,[15])],loopDrop:=zAA [(3,rg 10 5)]}
def zZU:FHint:={drop:=zAA [(0,[0,6]),(1,[1,8,9,10]),(2,[11]),(3,[7,13]),(4,[2,14])],take:=zAA [(3,[1])]}
def zaa:FHint:={drop:=zAA [(0,[0,6]),(1,[1,9,10]),(3,[12,13]),(4,[15,16]),(5,[17,18])],loopDrop:=zAA [(3,rg 12 7)],take:=zAA [(6,[1])]}
def zZ0:FHint:={drop:=zAA [(0,[2]),(1,[6,7]),(4,[10,11,12]),(5,[14,15]),(6,rg 16 9),(9,[29,30,31]),(10,[33,34]),(11,rg 35 9),(12,rg 45 7),(13,[52,53]),(14,[54,55,56]),(15,[3])],loopDrop:=zAA [(4,[2,4,5]++rg 10 50),(9,rg 29 25)],take:=zAA [(2,[1]),(16,[1])],mode:=[2]}
def zZC:FHint:={drop:=zAA [(0,[4]),(1,rg 6 4),(3,[11]),(5,[15]),(6,[5]++rg 16 8),(8,[25])],loopDrop:=zAA [(4,[4,5]++rg 14 12)]}
def zZI:FHint:={drop:=zAA [(0,[0,4,5]),(1,[9,12]),(2,[14,15]),(3,[7,16]),(4,[18,19,20]),(6,rg 22 5),(8,[1]++rg 27 4)],take:=zAA [(3,[2]),(8,[4]),(9,[1])],frz:=true}
def zY2:FHint:={drop:=zAA [(4,[13]),(7,[16]),(8,[5]++rg 17 4),(9,[21]),(10,[22]),(12,rg 25 4),(14,[32]),(17,[40,41]),(18,rg 42 4),(19,rg 47 7),(20,[10]++rg 54 13),(21,[67]),(22,[68]),(23,[69])],loopDrop:=zAA [(3,[4,5]++rg 12 11),(6,[5]++rg 15 7),(13,[7,9,10]++rg 31 38),(16,[9,10]++rg 39 29)]}
def zYz:FHint:={drop:=zAA [(0,[1]),(1,[10]),(2,rg 11 4),(4,[18]),(5,[19,20]),(7,[7]),(9,[28,29]),(10,[8,9]++rg 30 12),(11,[42]),(12,[43]),(13,[44])],loopDrop:=zAA [(3,rg 6 4++rg 17 27),(8,[8,9]++rg 27 16)]}
def zXW:FHint:={drop:=zAA [(0,[4]),(1,[0,1,5,6,7])]}
def zYX:FHint:={drop:=zAA [(0,[4]),(1,[0,1,5,6,7])]}
def zY3:FHint:={drop:=zAA [(0,[4]),(1,rg 6 4),(3,[11]),(5,[15]),(6,[5]++rg 16 8),(8,[25])],loopDrop:=zAA [(4,[4,5]++rg 14 12)]}
def zXx:FHint:={drop:=zAA [(0,[0,4]),(1,[1]++rg 5 6)]}
def zXu:FHint:={drop:=zAA [(0,[6]),(1,[0,1,2]++rg 7 8)]}
def zZf:FHint:={drop:=zAA [(0,[1,4]),(1,[0,5,6,7,8])]}
def zYQ:FHint:={drop:=zAA [(0,[0,4]),(1,[1]++rg 5 5)]}
def zYU:FHint:={drop:=zAA [(0,[0]),(1,rg 3 11)]}
def zYj:FHint:={drop:=zAA [(0,[6]),(1,[0,1,2]++rg 7 8)]}
def zY0:FHint:={drop:=zAA [(0,[0,4]),(3,[9,10,11]),(4,[13,14]),(5,[15,16,17]),(7,[19,20,21]),(8,[23,24]),(9,rg 25 8),(10,[7,33,34,35])],loopDrop:=zAA [(3,rg 7 29),(7,rg 19 14)],take:=zAA [(10,[2]),(11,[1])]}
def zXL:FHint:={drop:=zAA [(0,[0,8]),(1,rg 9 7),(3,[17,18,19]),(4,[20]),(5,[22,23,24]),(6,rg 25 6)],loopDrop:=zAA [(4,[8]++rg 20 12)]}
def zYp:FHint:={drop:=zAA [(0,[0,6]),(2,rg 9 4),(3,[14,15]),(4,rg 16 5),(5,rg 21 21)],loopDrop:=zAA [(2,[6]++rg 8 35)]}
def zYs:FHint:={drop:=zAA [(0,[0,4]),(3,[10,11,12]),(4,[14,15]),(5,rg 16 5),(7,[22,23,24]),(8,[26,27]),(10,rg 28 9),(11,[38,39]),(12,rg 40 14),(13,[7,54,55,56])],loopDrop:=zAA [(3,rg 7 50),(7,[9]++rg 22 32),(10,rg 28 26)],take:=zAA [(13,[2]),(14,[1])]}
def zX0:FHint:={drop:=zAA [(0,[0,1,4])]}
def zZi:FHint:={drop:=zAA [(0,[0,2]),(1,rg 16 20),(4,rg 37 4),(5,[42,43]),(6,rg 44 21),(9,rg 66 4),(10,[71,72]),(11,rg 73 12),(14,rg 86 4),(15,[91,92]),(17,[93,94]),(18,[96,97]),(19,rg 98 10),(20,rg 108 25),(23,rg 134 4),(24,[139,140]),(25,rg 141 8),(28,rg 150 4),(29,[155,156]),(31,[157,158]),(32,[160,161]),(33,rg 162 21),(36,rg 184 4),(37,[189,190]),(39,rg 191 7),(40,[199,200]),(41,rg 201 11),(44,rg 213 4),(45,[218,219]),(47,rg 220 7),(48,[228,229]),(49,rg 230 17)],loopDrop:=zAA [(4,[2]++rg 37 29),(9,[2]++rg 66 20),(14,[2,6,7,8]++rg 86 48),(17,[2,7,8]++rg 93 41),(23,[2]++rg 134 16),(28,[2,11]++rg 150 34),(31,[2]++rg 157 27),(36,[2,13]++rg 184 29),(39,[2]++rg 191 22),(44,[2,15]++rg 213 35),(47,[2]++rg 220 28)]}
def zYO:FHint:={drop:=zAA [(0,[1,4]),(1,[0]++rg 5 16)]}
def zX4:FHint:={drop:=zAA [(0,[3,8]),(1,[2]++rg 13 5),(5,[22,23]),(6,rg 24 14),(7,[39,40,41]),(8,[43])],loopDrop:=zAA [(4,[12]++rg 21 21++[43])],take:=zAA [(7,[2]),(9,[1])]}
def zZb:FHint:={drop:=zAA [(0,[0,2,8,9,11]),(1,[1]++rg 17 7),(2,[25,26]),(3,[13,27,28]),(4,rg 30 5),(5,[35]),(8,[40,41,42]),(9,[14,15]++rg 43 4),(10,[48]),(11,[49]),(12,rg 50 5),(13,[57,58])],loopDrop:=zAA [(7,[8,9,11,14,15]++rg 39 11)],take:=zAA [(3,[5])],frzs:=zAA [(12,[6])],frz:=true}
def zZd:FHint:={drop:=zAA [(0,[4]),(1,[8,9,10]),(2,[11]),(4,[14,15]),(5,[16,17,18]),(6,[20,21]),(7,rg 22 4),(8,[26,27,28]),(9,rg 30 4),(10,[34,35]),(11,[36,37,38]),(12,[5])],loopDrop:=zAA [(5,[7]++rg 16 20)],take:=zAA [(3,[1]),(9,[4])],mode:=[2,0]}
def zYh:FHint:={drop:=zAA [(0,[2]),(1,[3]),(3,[0,5,6])],intr:=1}
def zZe:FHint:={drop:=zAA [(0,[4]),(1,[6]),(3,[10]),(4,rg 11 5),(5,[5,17]),(6,[18])],loopDrop:=zAA [(2,[4,5]++rg 9 10)],take:=zAA [(5,[1])]}
def zYY:FHint:={drop:=zAA [(2,[19,20,21]),(3,[22]),(4,[0,1,2]++rg 24 4),(5,[28]),(6,[0,1,2]++rg 30 4),(7,[34]),(8,rg 36 4),(9,[40,41]),(10,rg 42 7),(11,[49]),(12,rg 51 4),(13,rg 55 6),(15,[12]++rg 61 7),(16,[69,70,71]),(17,rg 73 14),(18,[1,11]++rg 88 5),(19,[13,93]),(20,[11]++rg 94 8),(21,[15,102]),(22,rg 103 6),(23,[10,109,110]),(24,[111,112]),(25,[16,18,114,115,116]),(26,[1]++rg 117 5),(27,[14,122,123]),(28,[17,18,124,125,126]),(29,[2]++rg 127 6),(30,[14,133])],loopDrop:=zAA [(2,rg 10 124)],take:=zAA [(19,[1]),(21,[1]),(30,[1])]}
def zYM:FHint:={drop:=zAA [(0,[2]),(1,[0,3,4,5]),(2,[0,6,7])],intr:=9}
def zYZ:FHint:={drop:=zAA [(0,[1,10,11]),(1,[20]),(5,[25,26]),(6,[15]++rg 27 8),(7,rg 35 12),(8,[47]),(12,[48]),(13,[2,49,50,51]),(14,[53])],loopDrop:=zAA [(4,[15,16]++rg 24 24)],take:=zAA [(7,[4])]}
def zXC:FHint:={drop:=zAA [(0,[0,2,6]),(1,[1,7,8,9])]}
def zXA:FHint:={drop:=zAA [(0,[4]),(1,[6]),(3,[10]),(4,rg 11 5),(5,[5,17]),(6,[18])],loopDrop:=zAA [(2,[4,5]++rg 9 10)],take:=zAA [(5,[1])]}
def zXs:FHint:={drop:=zAA [(0,[6]),(1,rg 10 4),(5,[19]),(6,[7]),(7,[8,9]++rg 26 4),(9,[31])],loopDrop:=zAA [(4,rg 6 4++rg 18 14)]}
def zYS:FHint:={drop:=zAA [(0,[0,2,3]),(1,[12,13]),(2,[14]),(3,[4,16]),(4,[17,18,19]),(7,[26,27]),(8,rg 28 6),(9,[34]),(12,[40,41,42]),(13,rg 43 6),(14,[49,50]),(15,[8]++rg 52 12),(16,[64]),(17,[65,66]),(19,[70]),(20,[71,72]),(22,[76]),(23,rg 77 12),(24,[11]++rg 90 14),(25,[104]),(26,[105])],loopDrop:=zAA [(6,[7]++rg 25 10),(11,[8,9]++rg 39 26),(18,[10,11]++rg 69 37),(21,[11]++rg 75 30)],take:=zAA [(3,[2]),(24,[9]),(27,[1])]}
def zY9:FHint:={drop:=zAA [(0,[6]),(1,[0,1,2]++rg 7 10)]}
def zYG:FHint:={drop:=zAA [(0,[0,8]),(2,[12,13,14]),(3,[16,17]),(4,rg 18 6),(5,rg 27 4),(7,[34,35,36]),(8,[38,39]),(9,rg 40 5)],loopDrop:=zAA [(2,[8]++rg 10 36),(7,[8]++rg 34 12)]}
def zY1:FHint:={drop:=zAA [(0,[0,6]),(3,rg 9 4),(4,[14,15]),(5,rg 16 4),(6,[21,22,23])],loopDrop:=zAA [(3,rg 9 15)],take:=zAA [(7,[1])]}
def zZh:FHint:={drop:=zAA [(0,[0,4]),(2,rg 6 4),(3,[11,12]),(4,rg 13 7),(5,[5,21])],loopDrop:=zAA [(2,[4]++rg 6 16)],take:=zAA [(5,[1])]}
def zX2:FHint:={drop:=zAA [(0,[0,2]),(1,rg 7 5),(3,rg 13 4),(8,[23,24]),(9,[25,26,27]),(11,[29,30,31]),(12,[32])],loopDrop:=zAA [(7,[2,5]++rg 22 11)]}
def zXG:FHint:={drop:=zAA [(0,[0,2]),(3,[12,13,14]),(4,[3]++rg 15 5),(6,[21]),(9,[27,28,29]),(10,[5]++rg 30 10),(12,[41])],loopDrop:=zAA [(2,[2,3,4]++rg 11 11),(8,[2,5,6]++rg 26 16)]}
def zXS:FHint:={drop:=zAA [(0,[1,4]),(1,[0,5,6,7,8])]}
def zYb:FHint:={drop:=zAA [(0,[3]),(1,[0,1,4,5,6,7])]}
def zYV:FHint:={drop:=zAA [(0,[2]),(1,[0]++rg 3 11)]}
def zYW:FHint:={drop:=zAA [(0,[2]),(1,[4,5,6]),(2,[7]),(3,[9,10]),(4,rg 11 9)],loopDrop:=zAA [(2,[2]++rg 7 14)]}
def zYi:FHint:={drop:=zAA [(0,[4]),(1,[0,1,5,6,7,8])]}
def zYc:FHint:={drop:=zAA [(0,[4]),(1,rg 6 4),(3,[11]),(5,[15]),(6,[5]++rg 16 8),(8,[25])],loopDrop:=zAA [(4,[4,5]++rg 14 12)]}
def zYT:FHint:={drop:=zAA [(0,[4]),(1,[0,1,5,6,7,8])]}
def zYf:FHint:={drop:=zAA [(0,[1,4]),(1,[6]),(3,[10]),(4,rg 11 5),(5,[5,17]),(6,[18])],loopDrop:=zAA [(2,[4,5]++rg 9 10)],take:=zAA [(5,[1])]}
def zX9:FHint:={drop:=zAA [(0,[1,4]),(1,[0,5,6,7,8])]}
def zYu:FHint:={drop:=zAA [(0,[4]),(3,[11,12]),(4,[6,13,14,15]),(5,[16]),(6,[0,17])],loopDrop:=zAA [(2,[6]++rg 10 7)],take:=zAA [(6,[1])]}
def zYm:FHint:={drop:=zAA [(0,[4]),(1,rg 6 4),(3,[11]),(5,[15]),(6,[5]++rg 16 8),(8,[25])],loopDrop:=zAA [(4,[4,5]++rg 14 12)]}
def zYK:FHint:={drop:=zAA [(0,[4]),(1,rg 6 4),(3,[11]),(5,[15]),(6,[5]++rg 16 8),(8,[25])],loopDrop:=zAA [(4,[4,5]++rg 14 12)]}
def zXI:FHint:={drop:=zAA [(0,[3]),(1,[0,1,4,5,6,7])]}
def zYe:FHint:={drop:=zAA [(0,rg 5 4),(2,[12]),(3,[4]++rg 13 14),(4,[28])],loopDrop:=zAA [(1,[4]++rg 11 18)]}
def zXJ:FHint:={drop:=zAA [(0,[0,4]),(1,[1]++rg 5 6)]}
def zY8:FHint:={drop:=zAA [(0,[1,4]),(1,[6,7,8]),(2,rg 9 13),(3,[0]++rg 22 7),(4,rg 29 6)],take:=zAA [(4,[3])]}
def zZl:FHint:={drop:=zAA [(0,[0,5]),(1,[1,2,3,6,7,8,9])],frz:=true}
def zXO:FHint:={drop:=zAA [(0,[4]),(1,[6]),(3,[10]),(4,rg 11 5),(5,[5,17]),(6,[18])],loopDrop:=zAA [(2,[4,5]++rg 9 10)],take:=zAA [(5,[1])]}
def zYn:FHint:={drop:=zAA [(0,[8,9]),(1,[10,11]),(2,[13,14]),(3,[15]),(4,rg 16 14),(5,[31,32]),(6,rg 33 16)],loopDrop:=zAA [(1,[7]++rg 10 39),(4,rg 16 33)]}
def zXF:FHint:={drop:=zAA [(0,[11]),(2,[1,2,12,13,14]),(3,[15,16,17]),(4,[18]),(5,[20,21]),(6,rg 22 5),(7,[8,27,28]),(8,[29]),(9,[31,32]),(10,rg 33 18),(11,rg 51 5)],loopDrop:=zAA [(4,rg 18 9),(8,rg 29 27)]}
def zY7:FHint:={drop:=zAA [(0,[2,11,12,13]),(1,[14]),(2,[16,17]),(3,[18,19]),(4,rg 20 6),(5,rg 26 7),(6,[34,35]),(7,rg 36 5),(8,[41,42]),(9,[44,45,46]),(10,[10]++rg 47 18)],loopDrop:=zAA [(5,[10]++rg 26 39)]}
def zYA:FHint:={drop:=zAA [(0,[6,7]),(1,[2,13,14,15]),(3,rg 16 5),(4,rg 21 5),(5,[1]++rg 26 5),(6,[31]),(7,[8,33]),(8,[35,36,37]),(9,[38,39,40]),(10,[41,42,43]),(11,[0,10,12]++rg 44 5),(13,[11,50]),(14,[52]),(15,[11,53]),(16,[49,55]),(17,[11,56])],take:=zAA [(13,[1]),(15,[1]),(17,[1])]}
def zX6:FHint:={drop:=zAA [(0,[1,8]),(1,[2,9,10]),(2,[11,12]),(3,rg 14 14),(4,[28,29]),(5,[30,31])],loopDrop:=zAA [(2,rg 11 21)],take:=zAA [(0,[1])]}
def zYw:FHint:={drop:=zAA [(0,[6]),(1,[11,12]),(3,[13]),(4,[15,16]),(5,rg 17 15),(6,[33,34]),(7,[35,36]),(9,[38,39,40]),(11,rg 42 16),(12,[58,59,60]),(13,[62,63]),(14,[64]),(15,[66,67]),(16,rg 68 10),(17,rg 79 16),(18,[95,96,97]),(19,[99,100]),(20,[101,102]),(21,[104,105]),(22,rg 106 10),(23,rg 117 16)],loopDrop:=zAA [(3,[6,9,10]++rg 13 120),(5,rg 17 18),(14,rg 64 31),(20,rg 101 32)]}
def zX5:FHint:={drop:=zAA [(0,[4]),(1,[0,1]++rg 5 12)]}
def zYl:FHint:={drop:=zAA [(0,[8]),(1,[3]++rg 11 14),(2,[2]++rg 25 4),(3,rg 29 14),(4,[44,45]),(5,rg 46 13),(6,[60,61]),(7,[62,63]),(8,rg 65 14),(9,[79,80]),(10,[81,82]),(11,[9,83])],loopDrop:=zAA [(3,rg 29 54),(5,rg 46 16)],take:=zAA [(11,[1])]}
def zY6:FHint:={drop:=zAA [(0,[8,9]),(1,[3]++rg 12 14),(2,[2]++rg 26 4),(3,rg 30 13),(4,[44,45]),(5,rg 46 14),(6,[61,62]),(7,[63,64]),(8,[0,1]++rg 66 14),(9,[11,80]),(10,rg 81 14),(11,[95,96]),(12,[97,98]),(13,rg 99 13),(14,[113,114]),(15,rg 115 14),(16,[130,131]),(17,[132,133]),(18,rg 135 14),(19,[149,150]),(20,[151,152]),(21,[0,1]++rg 153 14),(22,[11,167])],loopDrop:=zAA [(3,rg 30 16),(5,rg 46 17),(13,rg 99 54),(15,rg 115 17)],take:=zAA [(9,[1]),(22,[1])]}
def zZg:FHint:={drop:=zAA [(1,[3]),(2,[5,6]),(4,[7]),(5,[9,10]),(6,[11,12]),(7,[0]++rg 13 6)],intr:=9}
def zXM:FHint:={drop:=zAA [(1,[3]),(2,[5,6]),(4,[7]),(5,[9,10]),(6,[11,12]),(7,[13]),(8,[15,16]),(9,[17,18]),(10,[0]++rg 19 6)],intr:=9}
def zYx:FHint:={drop:=zAA [(0,rg 11 7),(1,[19,20]),(2,[0,2,3,22,23]),(5,[28,29]),(6,rg 30 6),(7,rg 37 11),(8,[48])],loopDrop:=zAA [(4,[10]++rg 27 22)],mode:=[0,0,1,1,1,1,1]}
def zXE:FHint:={drop:=zAA [(0,[0,4]),(1,[1,2]++rg 5 5)]}
def zYo:FHint:={drop:=zAA [(0,[0,4]),(1,[1,2]++rg 5 9)]}
def zZc:FHint:={drop:=zAA [(0,[1,4]),(1,[0,5,6,7,8])]}
def zYB:FHint:={drop:=zAA [(0,[0,3]),(1,[1]++rg 4 10)]}
def zZa:FHint:={drop:=zAA [(0,[0,2]),(1,rg 3 5)]}
def zXP:FHint:={drop:=zAA [(0,[4]),(1,[0,1,5,6,7,8])]}
def zYd:FHint:={drop:=zAA [(0,[0,3]),(1,[1]++rg 4 5)]}
def zX8:FHint:={drop:=zAA [(0,[4]),(1,[0,1,5,6,7,8])]}
def zYk:FHint:={drop:=zAA [(0,[3]),(1,[0,1,4,5,6,7])]}
def zXR:FHint:={drop:=zAA [(0,[4]),(1,[6]),(3,[10]),(4,rg 11 5),(5,[5,17]),(6,[18])],loopDrop:=zAA [(2,[4,5]++rg 9 10)],take:=zAA [(5,[1])]}
def zYt:FHint:={drop:=zAA [(0,[4]),(1,[6]),(3,[10]),(4,rg 11 5),(5,[5,17]),(6,[18])],loopDrop:=zAA [(2,[4,5]++rg 9 10)],take:=zAA [(5,[1])]}
def zXw:FHint:={drop:=zAA [(0,[0,3]),(1,[1,4,5,6,7])]}
def zYN:FHint:={drop:=zAA [(0,[1,10]),(1,[11,12,13]),(2,[14,15]),(3,rg 17 19),(4,[37,38]),(5,rg 39 13),(6,[8]++rg 53 22),(7,[9,75])],loopDrop:=zAA [(1,[9]++rg 11 65)],take:=zAA [(0,[1]),(7,[1])]}
def zXZ:FHint:={drop:=zAA [(0,[2]),(1,[0,3,4,5,6])]}
def zZk:FHint:={drop:=zAA [(0,[2]),(1,rg 3 9),(2,rg 12 9),(3,rg 21 9),(4,[0,30,31,32])]}
def zXU:FHint:={drop:=zAA [(0,[6]),(1,[0,1,2]++rg 7 8)]}
def zXX:FHint:={drop:=zAA [(0,[10]),(1,rg 11 8),(2,[3]++rg 19 8),(3,[0,1,4]++rg 27 8),(4,[2,35])],take:=zAA [(4,[1])]}
def zYE:FHint:={drop:=zAA [(0,[2]),(1,[0,3,4,5])]}
def zYL:FHint:={drop:=zAA [(0,[0,3]),(1,[1,4,5,6,7])]}
def zY4:FHint:={drop:=zAA [(0,[4]),(1,[6]),(3,[10]),(4,rg 11 5),(5,[5,17]),(6,[18])],loopDrop:=zAA [(2,[4,5]++rg 9 10)],take:=zAA [(5,[1])]}
def zYy:FHint:={drop:=zAA [(0,[4]),(1,[6]),(3,[10]),(4,rg 11 5),(5,[5,17]),(6,[18])],loopDrop:=zAA [(2,[4,5]++rg 9 10)],take:=zAA [(5,[1])]}
def zYq:FHint:={drop:=zAA [(0,[8,9]),(1,[0]++rg 10 8),(2,[3]++rg 19 5),(3,[1,2,24,25]),(4,[1,2,26,27])],take:=zAA [(3,[2,3]),(4,[2,3])]}
def zJW:zBb:=fun f=>zWT [(11,zZ4),(16,zZN),(17,zZx),(18,zZ5),(19,zZE),(20,zZO),(21,zZw),(22,zZv),(26,zZY),(28,zZt),(29,zZ9),(31,zZ8),(33,zZ6),(34,zZK),(35,zZM),(38,zZP),(39,zZF),(51,zZu),(52,zZ1),(56,zZD),(57,zZQ),(58,zZX),(61,zZ7),(62,zZs),(65,zZz),(68,zZZ),(69,zZB),(70,zZr),(76,zZL),(78,zZJ),(81,zZS),(83,zZV),(86,zZG),(87,zZy),(88,zZR),(89,zZ3),(90,zZ2),(91,zZH),(92,zZW),(93,zZU),(95,zaa),(97,zZ0),(98,zZC),(99,zZI),(100,zY2),(101,zYz),(103,zXW),(104,zYX),(105,zY3),(106,zXx),(107,zXu),(108,zZf),(109,zYQ),(110,zYU),(111,zYj),(112,zY0),(113,zXL),(114,zYp),(115,zYs),(116,zX0),(117,zZi),(118,zYO),(119,zX4),(121,zZb),(122,zZd),(123,zYh),(131,zZe),(132,zYY),(133,zYM),(134,zYZ),(135,zXC),(136,zXA),(138,zXs),(139,zYS),(140,zY9),(141,zYG),(142,zY1),(143,zZh),(150,zX2),(151,zXG),(152,zXS),(153,zYb),(154,zYV),(155,zYW),(156,zYi),(158,zYc),(159,zYT),(161,zYf),(164,zX9),(165,zYu),(166,zYm),(167,zYK),(168,zXI),(169,zYe),(170,zXJ),(171,zY8),(173,zZl),(174,zXO),(176,zYn),(177,zXF),(178,zY7),(179,zYA),(180,zX6),(181,zYw),(182,zX5),(183,zYl),(184,zY6),(185,zZg),(186,zXM),(187,zYx),(188,zXE),(189,zYo),(195,zZc),(196,zYB),(197,zZa),(198,zXP),(199,zYd),(200,zX8),(201,zYk),(202,zXR),(203,zYt),(204,zXw),(205,zYN),(206,zXZ),(207,zZk),(208,zXU),(209,zXX),(210,zYE),(221,zYL),(222,zY4),(223,zYy),(224,zYq)] f
end Go.Eng
namespace Go.Eng
open Go
abbrev Al:=PV→Value→Prop
def zB5:Al:=fun _ _=>False
def zEB (w:World) (b:Nat) (c:Array Value):Prop:=∃ e,w.heap[b]? = some (.cells c e (0,0))
def zJP (w:World) (b:Nat) (c:Array Value):Prop:=∃ e fz,w.heap[b]? = some (.cells c e fz)
def seg (c:Array Value) (o n:Nat):List Value:=(c.toList.drop o).take n
def zCa:Value→Bool
 | .agg _=>true
 | _=>false
def flat (us:List Value):List Value:=us.flatMap fun u=>u.cells.toList
mutual
def Rep (w:World) (Φ:Nat→Prop) (A:Al):PV→Value→List Nat→Prop
 | .bad,_,L=>L=[]
 | .und,v,L=>v=undef∧L=[]
 | .int k n,v,L=>v = .int k n∧L=[]
 | .bool b,v,L=>v = .bool b∧L=[]
 | .nilp,v,L=>v = .pointer none∧L=[]
 | .nilf,v,L=>v = .nilFunc∧L=[]
 | .nilm,v,L=>v = .map none∧L=[]
 | .nn,v,L=>L=[]∧∃ a n,v = .slice (some a) 0 n
 | .nils _,v,L=>v = .slice none 0 0∧L=[]
 | .agg cs,v,L=>∃ vs:Array Value,v = .agg vs∧zAX w Φ A cs vs.toList L
 | .tup cs,v,L=>∃ vs:Array Value,v = .tuple vs∧zAX w Φ A cs vs.toList L
 | .sl xs,v,L=>L=[]∧((xs=[]∧∃ a n,v = .slice a 0 n∧(a=none→n=0))∨∃ a n c us sz,v = .slice (some a) xs.length n∧a.spot=none∧xs.length≤n∧Φ a.block∧zJP w a.block c ∧
   (∀ x∈xs,x.cells.length=sz)∧((∀ u∈us,u.cells.size=sz)∧us.map zCa=xs.map PV.isAgg)∧seg c a.off (xs.length*sz)=flat us∧zAX w Φ zB5 xs us [])
 | .own sz xs,v,L=>(xs=[]∧L=[]∧v = .slice none 0 0)∨∃ a n c us L',L=a.block::L'∧v = .slice (some a) xs.length n∧a.spot=none∧xs.length≤n∧zEB w a.block c∧a.off+n*sz≤c.size ∧
   (∀ x∈xs,x.cells.length=sz)∧((∀ u∈us,u.cells.size=sz)∧us.map zCa=xs.map PV.isAgg)∧seg c a.off (xs.length*sz)=flat us∧zAX w Φ zB5 xs us L'
 | .ref q,v,L=>L=[]∧∃ a c u,v = .pointer (some a)∧a.spot=none∧Φ a.block∧zJP w a.block c∧seg c a.off q.cells.length=u.cells.toList∧(u.cells.size=q.cells.length∧zCa u=q.isAgg)∧Rep w Φ A q u []
 | .box q,v,L=>∃ a c u L',L=a.block::L'∧v = .pointer (some a)∧a.spot=none∧zEB w a.block c∧seg c a.off q.cells.length=u.cells.toList∧(u.cells.size=q.cells.length∧zCa u=q.isAgg)∧Rep w Φ A q u L'
 | .map es,v,L=>L=[]∧∃ b ents,v = .map (some b)∧Φ b∧w.heap[b]? = some (.map ents es.length)∧zDQ w Φ es ents.toList 0
 | .omap es,v,L=>∃ b ents,L=[b]∧v = .map (some b)∧w.heap[b]? = some (.map ents es.length)∧zDQ w Φ es ents.toList 0
 | .func f first caps,v,L=>L=[]∧∃ fs cs:Array Value,v = .func (.func f) fs cs∧zAX w Φ A first fs.toList []∧zAX w Φ A caps cs.toList []
 | .addr r pre i c sh,v,L=>L=[]∧A (.addr r pre i c sh) v
 | .bor r pre z lo n,v,L=>L=[]∧A (.bor r pre z lo n) v
 | .bsl r pre i c sz ag n,v,L=>L=[]∧A (.bsl r pre i c sz ag n) v
 | .bmap r pre,v,L=>L=[]∧A (.bmap r pre) v
 | .lock q,v,L=>Rep w Φ A q v L
 | .yld h,v,L=>L=[]∧v = .func (.yield h) #[] #[]
 | .log xs k,v,L=>L=[]∧A (.log xs k) v
def zAX (w:World) (Φ:Nat→Prop) (A:Al):List PV→List Value→List Nat→Prop
 | [],vs,L=>vs=[]∧L=[]
 | p::ps,vs,L=>∃ v vs' L1 L2,vs=v::vs'∧L=L1++L2∧Rep w Φ A p v L1∧zAX w Φ A ps vs' L2
def zDQ (w:World) (Φ:Nat→Prop):List (PV×PV)→List MapEntry→Nat→Prop
 | [],es,_=>es=[]
 | (k,p)::ps,es,i=>∃ e es',es=e::es'∧e.born=i∧Rep w Φ zB5 k e.key []∧Rep w Φ zB5 p e.val []∧zDQ w Φ ps es' (i+1)
end
section
variable {w w':World} {Φ Φ':Nat→Prop}
theorem zHy {f:PV→PV} (hf:∀ p,(f p).isAgg=p.isAgg) (p:PV):(p.mapW f).cells.length=p.cells.length:=by
 have one:∀ p:PV,p.isAgg=false→p.cells.length=1:=by intro p h;cases p<;>simp_all [PV.isAgg,PV.cells]
 have len:∀ ps:List PV,(zCI f ps).length=ps.length:=by
  intro ps;induction ps with
  | nil=>rfl
  | cons p ps ih=>simp [zCI,ih]
 cases p with
 | agg cs=>simp [PV.mapW,PV.cells,len]
 | addr r pre i c sh=>rw [PV.mapW,one _ (by rw [hf];rfl),one _ rfl]
 | bor r pre z lo n=>rw [PV.mapW,one _ (by rw [hf];rfl),one _ rfl]
 | bsl r pre i c z ag n=>rw [PV.mapW,one _ (by rw [hf];rfl),one _ rfl]
 | bmap r pre=>rw [PV.mapW,one _ (by rw [hf];rfl),one _ rfl]
 | log xs k=>rw [PV.mapW,one _ (by rw [hf];rfl),one _ rfl]
 | _=>rfl
theorem zFS {f:PV→PV} (hf:∀ p,(f p).isAgg=p.isAgg) (p:PV):(p.mapW f).isAgg=p.isAgg:=by
 cases p<;>first | rfl | exact hf _
mutual
theorem Rep.map {A A':Al} {f:PV→PV} (hf:∀ p,(f p).isAgg=p.isAgg) (hΦ:∀ b,Φ b→Φ' b∧w'.heap[b]? = w.heap[b]?) (hA:∀ a v,a.isWay=true→A a v→Rep w' Φ' A' (f a) v []) :
  ∀ (p:PV) (v:Value) (L:List Nat),(∀ b∈L,w'.heap[b]? = w.heap[b]?)→Rep w Φ A p v L→Rep w' Φ' A' (p.mapW f) v L
 | .bad,_,_,_,h=>by simpa [Rep,PV.mapW] using h
 | .und,_,_,_,h=>by simpa [Rep,PV.mapW] using h
 | .int ..,_,_,_,h=>by simpa [Rep,PV.mapW] using h
 | .bool _,_,_,_,h=>by simpa [Rep,PV.mapW] using h
 | .nilp,_,_,_,h=>by simpa [Rep,PV.mapW] using h
 | .nilf,_,_,_,h=>by simpa [Rep,PV.mapW] using h
 | .nilm,_,_,_,h=>by simpa [Rep,PV.mapW] using h
 | .nn,_,_,_,h=>by simpa [Rep,PV.mapW] using h
 | .nils _,_,_,_,h=>by simpa [Rep,PV.mapW] using h
 | .agg cs,v,L,hw,h=>by
  obtain ⟨vs,rfl,h⟩:=h
  exact ⟨vs,rfl,zAX.map hf hΦ hA cs _ L hw h⟩
 | .tup cs,v,L,hw,h=>by
  obtain ⟨vs,rfl,h⟩:=h
  exact ⟨vs,rfl,zAX.map hf hΦ hA cs _ L hw h⟩
 | .sl xs,v,L,hw,h=>by
  obtain ⟨rfl,h | ⟨a,n,c,us,sz,h1,h2,h3,h4,⟨e,fz,h5⟩,h6,h7,h8,h9⟩⟩:=h
  ·exact ⟨rfl,.inl h⟩
  ·have:=zAX.same (A:=zB5) hΦ xs us [] (by simp) h9
   exact ⟨rfl,.inr ⟨a,n,c,us,sz,h1,h2,h3,(hΦ _ h4).1,⟨e,fz,(hΦ _ h4).2.trans h5⟩,h6,h7,h8,this⟩⟩
 | .own sz xs,v,L,hw,h=>by
  obtain h | ⟨a,n,c,us,L',rfl,h1,h2,h3,⟨e,h5⟩,h6,h7,h8,h9,jR⟩:=h
  ·exact .inl h
  ·have:=zAX.same (A:=zB5) hΦ xs us L' (fun b hb=>hw b (by simp [hb])) jR
   exact .inr ⟨a,n,c,us,L',rfl,h1,h2,h3,⟨e,(hw _ (by simp)).trans h5⟩,h6,h7,h8,h9,this⟩
 | .ref q,v,L,hw,h=>by
  obtain ⟨rfl,a,c,u,h1,h2,h3,⟨e,fz,h4⟩,h5,h6,h7⟩:=h
  have hc:(q.mapW f).cells.length=q.cells.length:=zHy hf q
  exact ⟨rfl,a,c,u,h1,h2,(hΦ _ h3).1,⟨e,fz,(hΦ _ h3).2.trans h4⟩,by rw [hc];exact h5,by rw [hc,zFS hf];exact h6,Rep.map hf hΦ hA q u [] (by simp) h7⟩
 | .box q,v,L,hw,h=>by
  obtain ⟨a,c,u,L',rfl,h1,h2,⟨e,h4⟩,h5,h6,h7⟩:=h
  have hc:(q.mapW f).cells.length=q.cells.length:=zHy hf q
  exact ⟨a,c,u,L',rfl,h1,h2,⟨e,(hw _ (by simp)).trans h4⟩,by rw [hc];exact h5,by rw [hc,zFS hf];exact h6,Rep.map hf hΦ hA q u L' (fun b hb=>hw b (by simp [hb])) h7⟩
 | .map es,v,L,hw,h=>by
  obtain ⟨rfl,b,ents,h1,h2,h3,h4⟩:=h
  exact ⟨rfl,b,ents,h1,(hΦ _ h2).1,(hΦ _ h2).2.trans h3,zDQ.same hΦ es _ _ h4⟩
 | .omap es,v,L,hw,h=>by
  obtain ⟨b,ents,rfl,h1,h3,h4⟩:=h
  exact ⟨b,ents,rfl,h1,(hw _ (by simp)).trans h3,zDQ.same hΦ es _ _ h4⟩
 | .func g a b,v,L,hw,h=>by
  obtain ⟨rfl,fs,cs,h1,h2,h3⟩:=h
  exact ⟨rfl,fs,cs,h1,zAX.map hf hΦ hA a _ [] (by simp) h2,zAX.map hf hΦ hA b _ [] (by simp) h3⟩
 | .addr ..,v,L,hw,h=>by obtain ⟨rfl,h⟩:=h;exact hA _ _ rfl h
 | .bor ..,v,L,hw,h=>by obtain ⟨rfl,h⟩:=h;exact hA _ _ rfl h
 | .bsl ..,v,L,hw,h=>by obtain ⟨rfl,h⟩:=h;exact hA _ _ rfl h
 | .bmap ..,v,L,hw,h=>by obtain ⟨rfl,h⟩:=h;exact hA _ _ rfl h
 | .lock q,v,L,hw,h=>Rep.map hf hΦ hA q v L hw h
 | .yld _,v,L,hw,h=>h
 | .log ..,v,L,hw,h=>by obtain ⟨rfl,h⟩:=h;exact hA _ _ rfl h
theorem zAX.map {A A':Al} {f:PV→PV} (hf:∀ p,(f p).isAgg=p.isAgg) (hΦ:∀ b,Φ b→Φ' b∧w'.heap[b]? = w.heap[b]?) (hA:∀ a v,a.isWay=true→A a v→Rep w' Φ' A' (f a) v []) :
  ∀ (ps:List PV) (vs:List Value) (L:List Nat),(∀ b∈L,w'.heap[b]? = w.heap[b]?)→zAX w Φ A ps vs L→zAX w' Φ' A' (zCI f ps) vs L
 | [],_,_,_,h=>h
 | p::ps,vs,L,hw,h=>by
  obtain ⟨v,vs',L1,L2,rfl,rfl,h1,h2⟩:=h
  exact ⟨v,vs',L1,L2,rfl,rfl,Rep.map hf hΦ hA p v L1 (fun b hb=>hw b (by simp [hb])) h1,zAX.map hf hΦ hA ps vs' L2 (fun b hb=>hw b (by simp [hb])) h2⟩
theorem Rep.same {A:Al} (hΦ:∀ b,Φ b→Φ' b∧w'.heap[b]? = w.heap[b]?) :
  ∀ (p:PV) (v:Value) (L:List Nat),(∀ b∈L,w'.heap[b]? = w.heap[b]?)→Rep w Φ zB5 p v L→Rep w' Φ' A p v L
 | .bad,_,_,_,h=>h
 | .und,_,_,_,h=>h
 | .int ..,_,_,_,h=>h
 | .bool _,_,_,_,h=>h
 | .nilp,_,_,_,h=>h
 | .nilf,_,_,_,h=>h
 | .nilm,_,_,_,h=>h
 | .nn,_,_,_,h=>h
 | .nils _,_,_,_,h=>h
 | .agg cs,v,L,hw,h=>by
  obtain ⟨vs,rfl,h⟩:=h
  exact ⟨vs,rfl,zAX.same hΦ cs _ L hw h⟩
 | .tup cs,v,L,hw,h=>by
  obtain ⟨vs,rfl,h⟩:=h
  exact ⟨vs,rfl,zAX.same hΦ cs _ L hw h⟩
 | .sl xs,v,L,hw,h=>by
  obtain ⟨rfl,h | ⟨a,n,c,us,sz,h1,h2,h3,h4,⟨e,fz,h5⟩,h6,h7,h8,h9⟩⟩:=h
  ·exact ⟨rfl,.inl h⟩
  ·have:=zAX.same (A:=zB5) hΦ xs us [] (by simp) h9
   exact ⟨rfl,.inr ⟨a,n,c,us,sz,h1,h2,h3,(hΦ _ h4).1,⟨e,fz,(hΦ _ h4).2.trans h5⟩,h6,h7,h8,this⟩⟩
 | .own sz xs,v,L,hw,h=>by
  obtain h | ⟨a,n,c,us,L',rfl,h1,h2,h3,⟨e,h5⟩,h6,h7,h8,h9,jR⟩:=h
  ·exact .inl h
  ·have:=zAX.same (A:=zB5) hΦ xs us L' (fun b hb=>hw b (by simp [hb])) jR
   exact .inr ⟨a,n,c,us,L',rfl,h1,h2,h3,⟨e,(hw _ (by simp)).trans h5⟩,h6,h7,h8,h9,this⟩
 | .ref q,v,L,hw,h=>by
  obtain ⟨rfl,a,c,u,h1,h2,h3,⟨e,fz,h4⟩,h5,h6,h7⟩:=h
  exact ⟨rfl,a,c,u,h1,h2,(hΦ _ h3).1,⟨e,fz,(hΦ _ h3).2.trans h4⟩,h5,h6,Rep.same hΦ q u [] (by simp) h7⟩
 | .box q,v,L,hw,h=>by
  obtain ⟨a,c,u,L',rfl,h1,h2,⟨e,h4⟩,h5,h6,h7⟩:=h
  exact ⟨a,c,u,L',rfl,h1,h2,⟨e,(hw _ (by simp)).trans h4⟩,h5,h6,Rep.same hΦ q u L' (fun b hb=>hw b (by simp [hb])) h7⟩
 | .map es,v,L,hw,h=>by
  obtain ⟨rfl,b,ents,h1,h2,h3,h4⟩:=h
  exact ⟨rfl,b,ents,h1,(hΦ _ h2).1,(hΦ _ h2).2.trans h3,zDQ.same hΦ es _ _ h4⟩
 | .omap es,v,L,hw,h=>by
  obtain ⟨b,ents,rfl,h1,h3,h4⟩:=h
  exact ⟨b,ents,rfl,h1,(hw _ (by simp)).trans h3,zDQ.same hΦ es _ _ h4⟩
 | .func g a b,v,L,hw,h=>by
  obtain ⟨rfl,fs,cs,h1,h2,h3⟩:=h
  exact ⟨rfl,fs,cs,h1,zAX.same hΦ a _ [] (by simp) h2,zAX.same hΦ b _ [] (by simp) h3⟩
 | .addr ..,v,L,hw,h=>h.2.elim
 | .bor ..,v,L,hw,h=>h.2.elim
 | .bsl ..,v,L,hw,h=>h.2.elim
 | .bmap ..,v,L,hw,h=>h.2.elim
 | .lock q,v,L,hw,h=>Rep.same hΦ q v L hw h
 | .yld _,v,L,hw,h=>h
 | .log ..,v,L,hw,h=>h.2.elim
theorem zAX.same {A:Al} (hΦ:∀ b,Φ b→Φ' b∧w'.heap[b]? = w.heap[b]?) :
  ∀ (ps:List PV) (vs:List Value) (L:List Nat),(∀ b∈L,w'.heap[b]? = w.heap[b]?)→zAX w Φ zB5 ps vs L→zAX w' Φ' A ps vs L
 | [],_,_,_,h=>h
 | p::ps,vs,L,hw,h=>by
  obtain ⟨v,vs',L1,L2,rfl,rfl,h1,h2⟩:=h
  exact ⟨v,vs',L1,L2,rfl,rfl,Rep.same hΦ p v L1 (fun b hb=>hw b (by simp [hb])) h1,zAX.same hΦ ps vs' L2 (fun b hb=>hw b (by simp [hb])) h2⟩
theorem zDQ.same (hΦ:∀ b,Φ b→Φ' b∧w'.heap[b]? = w.heap[b]?):∀ (ps:List (PV×PV)) (es:List MapEntry) (i:Nat),zDQ w Φ ps es i→zDQ w' Φ' ps es i
 | [],_,_,h=>h
 | (k,p)::ps,es,i,h=>by
  obtain ⟨e,es',rfl,h0,h1,h2,h3⟩:=h
  exact ⟨e,es',rfl,h0,Rep.same hΦ k _ [] (by simp) h1,Rep.same hΦ p _ [] (by simp) h2,zDQ.same hΦ ps es' (i+1) h3⟩
end
end
mutual
theorem zBa:∀ p:PV,p.mapW (fun x=>x)=p
 | .agg cs=>by rw [PV.mapW,zF6]
 | .tup cs=>by rw [PV.mapW,zF6]
 | .func g a b=>by rw [PV.mapW,zF6,zF6]
 | .ref q=>by rw [PV.mapW,zBa]
 | .box q=>by rw [PV.mapW,zBa]
 | .lock q=>by rw [PV.mapW,zBa]
 | .addr .. => rfl
 | .bor .. => rfl
 | .bsl .. => rfl
 | .bmap .. => rfl
 | .yld .. => rfl
 | .log .. => rfl
 | .bad=>rfl
 | .und=>rfl
 | .int .. => rfl
 | .bool .. => rfl
 | .nilp=>rfl
 | .nilf=>rfl
 | .nilm=>rfl
 | .nn=>rfl
 | .nils _=>rfl
 | .sl _=>rfl
 | .own .. => rfl
 | .map _=>rfl
 | .omap _=>rfl
theorem zF6:∀ ps:List PV,zCI (fun x=>x) ps=ps
 | []=>rfl
 | p::ps=>by rw [zCI,zBa,zF6]
end
def zDe (w w':World) (Φ Φ':Nat→Prop):Prop:=∀ b,Φ b→Φ' b∧w'.heap[b]? = w.heap[b]?
theorem zCR {w:World} {Φ:Nat→Prop} {A:Al} {a:PV} {v:Value} (hw:a.isWay=true) (h:A a v):Rep w Φ A a v []:=by
 cases a<;>first | exact ⟨rfl,h⟩ | exact absurd hw (by simp [PV.isWay])
section
variable {w w':World} {Φ Φ':Nat→Prop} {A A':Al}
theorem Rep.mono (hΦ:zDe w w' Φ Φ') (hA:∀ a v,a.isWay=true→A a v→A' a v) {p:PV} {v:Value} {L:List Nat} (hw:∀ b∈L,w'.heap[b]? = w.heap[b]?) (h:Rep w Φ A p v L):Rep w' Φ' A' p v L:=by
 have:=Rep.map (f:=fun x=>x) (fun _=>rfl) hΦ (fun a v hw h=>zCR hw (hA a v hw h)) p v L hw h
 rwa [zBa] at this
theorem zAX.mono (hΦ:zDe w w' Φ Φ') (hA:∀ a v,a.isWay=true→A a v→A' a v) {p:List PV} {v:List Value} {L:List Nat} (hw:∀ b∈L,w'.heap[b]? = w.heap[b]?) (h:zAX w Φ A p v L):zAX w' Φ' A' p v L:=by
 have:=zAX.map (f:=fun x=>x) (fun _=>rfl) hΦ (fun a v hw h=>zCR hw (hA a v hw h)) p v L hw h
 rwa [zF6] at this
theorem zDe.refl:zDe w w Φ Φ:=fun _ h=>⟨h,rfl⟩
theorem zAX.split:∀ {ps:List PV} {vs:List Value} {L:List Nat},zAX w Φ A ps vs L→∀ {i:Nat} {p:PV},ps[i]? = some p →
  ∃ v La Li Lb,vs[i]? = some v∧L=La++Li++Lb∧Rep w Φ A p v Li ∧
   (∀ w' Φ' (A':Al) p' Li',(∀ a v,a.isWay=true→A a v→A' a v)→zDe w w' Φ Φ'→(∀ b∈La++Lb,w'.heap[b]? = w.heap[b]?)→Rep w' Φ' A' p' v Li'→zAX w' Φ' A' (ps.set i p') vs (La++Li'++Lb)) ∧
   ∀ j p2,j≠i→ps[j]? = some p2→∃ v2 L2,vs[j]? = some v2∧Rep w Φ A p2 v2 L2∧∀ b∈L2,b∈La++Lb
 | [],_,_,_,_,_,hp=>by simp at hp
 | q :: ps,vs,L,h,0,p,hp=>by
  obtain ⟨v,vs',L1,L2,rfl,rfl,h1,h2⟩:=h
  simp at hp;subst hp
  refine ⟨v,[],L1,L2,rfl,by simp,h1,?_,?_⟩
  ·intro w' Φ' A' p' Li' hA hs hb hr
   exact ⟨v,vs',Li',L2,rfl,by simp,hr,h2.mono hs hA (by simpa using hb)⟩
  ·intro j p2 hj wc
   cases j with
   | zero=>exact absurd rfl hj
   | succ j =>
    obtain ⟨v2,La,Li,Lb,kg,rfl,qo,_⟩:=h2.split (i:=j) (p:=p2) (by simpa using wc)
    exact ⟨v2,Li,by simpa using kg,qo,fun b hb=>by simp [hb]⟩
 | q :: ps,vs,L,h,i+1,p,hp=>by
  obtain ⟨v,vs',L1,L2,rfl,rfl,h1,h2⟩:=h
  obtain ⟨u,La,Li,Lb,hu,rfl,hr,hk,ho⟩:=h2.split (i:=i) (by simpa using hp)
  refine ⟨u,L1++La,Li,Lb,by simpa using hu,by simp,hr,?_,?_⟩
  rotate_left
  ·intro j p2 hj wc
   cases j with
   | zero=>simp at wc;subst wc;exact ⟨v,L1,rfl,h1,fun b hb=>by simp [hb]⟩
   | succ j =>
    obtain ⟨v2,L2,j3,jg,wR⟩:=ho j p2 (by omega) (by simpa using wc)
    exact ⟨v2,L2,by simpa using j3,jg,fun b hb=>by have:=wR b hb;simp at this ⊢;rcases this with h | h<;>simp [h]⟩
  intro w' Φ' A' p' Li' hA hs hb j4
  exact ⟨v,vs',L1,La++Li'++Lb,rfl,by simp,h1.mono hs hA (fun b h=>hb b (by simp [h])),hk w' Φ' A' p' Li' hA hs (fun b h=>hb b (by rcases List.mem_append.1 h with h | h<;>simp [h])) j4⟩
theorem zAX.length:∀ {ps:List PV} {vs:List Value} {L:List Nat},zAX w Φ A ps vs L→vs.length=ps.length
 | [],_,_,h=>by simp [h.1]
 | _::_,_,_,h=>by
  obtain ⟨v,vs',L1,L2,rfl,rfl,h1,h2⟩:=h
  simp [h2.length]
end
def zAr (a:Addr) (k:Nat):Addr:=⟨a.block,a.off+k,none⟩
def kid (w:World):Value→PV→Nat→Nat→Option Value
 | .slice (some a) _ _,.own sz _,i,c=>w.cell? (zAr a (i*sz+c))
 | .pointer (some a),.box _,_,c=>w.cell? (zAr a c)
 | .agg vs,.agg _,_,c=>vs[c]?
 | _,_,_,_=>none
def zAO (w:World):Value→PV→zAQ→Option (Value×PV)
 | v,p,[]=>some (v,p)
 | v, p, (i,c)::rest =>
  match zAY p with
  | some xs=>match xs[i]? with
   | some x=>match x.cells[c]? with
    | some q=>match kid w v p i c with
     | some u=>zAO w u q rest
     | none=>none
    | none=>none
   | none=>none
  | none=>none
def zA2:Value→PV→Nat→Nat→Option Addr
 | .slice (some a) _ _,.own sz _,i,c=>some (zAr a (i*sz+c))
 | .pointer (some a),.box _,0,c=>some (zAr a c)
 | _,_,_,_=>none
def zBH (v nv:Value) (sz lo n:Nat):Prop :=
 match nv with
 | .slice none _ _=>v = .slice none 0 0∧n=0
 | .slice (some a) _ cap=>v = .slice (some (zAr a (lo*sz))) n (cap-lo)∧lo+n≤cap
 | _=>False
def zA1 (w:World) (rv:Nat→Value) (E:Nat→PV):Al
 | .addr r pre i c _,v=>r<zAb∧∃ a,v = .pointer (some a)∧a.spot=none∧∀ nv np,zAO w (rv r) (E r).unlock pre=some (nv,np)→∀ a',zA2 nv np i c=some a'→a=a'
 | .bor r pre z lo n,v=>r<zAb∧(∃ a cap,v = .slice a n cap∧n≤cap∧(a=none→cap=0)∧∀ b,a=some b→b.spot=none) ∧
   ∀ nv np,zAO w (rv r) (E r).unlock pre=some (nv,np)→np.heavy0=true→∃ sz xs,np = .own sz xs∧z=sz∧zBH v nv sz lo n
 | .bsl r pre i c _ _ n,v=>r<zAb∧∃ a cap,v = .slice (some a) n cap∧n≤cap∧a.spot=none ∧
   ∀ nv np,zAO w (rv r) (E r).unlock pre=some (nv,np)→∀ a',zA2 nv np i c=some a'→a=a'
 | .bmap r pre,v=>r<zAb∧(∃ b,v = .map (some b))∧∀ nv np,zAO w (rv r) (E r).unlock pre=some (nv,np)→∀ es,np = .omap es→v=nv
 | _,_=>False
def child (p:PV) (i c:Nat):Option PV:=(zAY p).bind fun xs=>(xs[i]?).bind fun x=>x.cells[c]?
theorem zB0 (p:PV) (i c:Nat) (rest:zAQ):zAy p ((i,c)::rest)=(child p i c).bind (zAy · rest):=by
 simp only [zAy,child];split
 ·rename_i xs h;rw [h];simp only [Option.bind_some];split
  ·rename_i x h;rw [h];simp only [Option.bind_some];split
   ·rename_i q h;rw [h];rfl
   ·rename_i h;rw [h];rfl
  ·rename_i h;rw [h];rfl
 ·rename_i h;rw [h];rfl
theorem zA0 (w:World) (v:Value) (p:PV) (i c:Nat) (rest:zAQ):zAO w v p ((i,c)::rest)=(child p i c).bind fun q=>(kid w v p i c).bind fun u=>zAO w u q rest:=by
 simp only [zAO,child];split
 ·rename_i xs h;rw [h];simp only [Option.bind_some];split
  ·rename_i x h;rw [h];simp only [Option.bind_some];split
   ·rename_i q h;rw [h];simp only [Option.bind_some];split
    ·rename_i h;rw [h];rfl
    ·rename_i h;rw [h];rfl
   ·rename_i h;rw [h];rfl
  ·rename_i h;rw [h];rfl
 ·rename_i h;rw [h];rfl
def zBQ (p:PV) (i c:Nat) (q':PV):Option PV:=(zAY p).bind fun xs=>(xs[i]?).bind fun x=>zAB p (xs.set i (zAx x c [q']))
theorem zBi (f:PV→Option PV) (p:PV) (i c:Nat) (rest:zAQ):zAt f p ((i,c)::rest)=(child p i c).bind fun q=>(zAt f q rest).bind fun q'=>zBQ p i c q':=by
 simp only [zAt,child,zBQ];split
 ·rename_i xs h;rw [h];simp only [Option.bind_some];split
  ·rename_i x h;rw [h];simp only [Option.bind_some];split
   ·rename_i q h;rw [h];simp only [Option.bind_some];split
    ·rename_i h;rw [h];rfl
    ·rename_i h;rw [h];rfl
   ·rename_i h;rw [h];rfl
  ·rename_i h;rw [h];rfl
 ·rename_i h;rw [h];rfl
section
variable {w w':World} {Φ Φ':Nat→Prop} {A:Al}
theorem Rep.cell {p:PV} {v:Value} {L:List Nat} (h:Rep w Φ A p v L) {c:Nat} {q:PV} (hq:p.cells[c]? = some q) (hn:zCa v=p.isAgg) :
  ∃ u La Li Lb,v.cells.toList[c]? = some u∧L=La++Li++Lb∧Rep w Φ A q u Li ∧
   (∀ w' Φ' (A':Al) q' Li',(∀ a v,a.isWay=true→A a v→A' a v)→zDe w w' Φ Φ'→(∀ b∈La++Lb,w'.heap[b]? = w.heap[b]?)→q'.isAgg=q.isAgg→Rep w' Φ' A' q' u Li'→Rep w' Φ' A' (zAx p c [q']) v (La++Li'++Lb)∧(zAx p c [q']).cells.length=p.cells.length∧(zAx p c [q']).isAgg=p.isAgg) ∧
   ∀ c2 q2,c2≠c→p.cells[c2]? = some q2→∃ u2 L2,v.cells.toList[c2]? = some u2∧Rep w Φ A q2 u2 L2∧∀ b∈L2,b∈La++Lb:=by
 cases hp:p.isAgg with
 | true =>
  cases p<;>simp [PV.isAgg] at hp
  rename_i cs
  obtain ⟨vs,rfl,h⟩:=h
  obtain ⟨u,La,Li,Lb,hu,rfl,hr,hk,ho⟩:=h.split hq
  have hc:c<cs.length:=(List.getElem?_eq_some_iff.1 hq).1
  refine ⟨u,La,Li,Lb,hu,rfl,hr,fun w' Φ' A' q' Li' hA hs hb _ j4=>?_,fun c2 q2 hI h2=>ho c2 q2 hI h2⟩
  have he:cs.take c++[q']++cs.drop (c+1)=cs.set c q':=by
   rw [List.set_eq_take_append_cons_drop,if_pos hc];simp
  refine ⟨⟨vs,rfl,?_⟩,?_,rfl⟩
  ·show zAX w' Φ' A' (cs.take c++[q']++cs.drop (c+1)) _ _
   rw [he];exact hk w' Φ' A' q' Li' hA hs hb j4
  ·show (cs.take c++[q']++cs.drop (c+1)).length=cs.length
   rw [he];simp
 | false =>
  have j5:p.cells=[p]:=by cases p<;>first | rfl | simp [PV.isAgg] at hp
  have hv:v.cells=#[v]:=by rw [hp] at hn;cases v<;>first | rfl | simp [zCa] at hn
  rw [j5] at hq
  have hc:c=0:=by
   have:=(List.getElem?_eq_some_iff.1 hq).1;simp at this;exact this
  subst hc;simp at hq;subst hq
  refine ⟨v,[],L,[],by simp [hv],by simp,h,fun w' Φ' A' q' Li' hA hs hb jh j4=>?_,fun c2 q2 hI h2=>?_⟩
  rotate_left
  ·rw [j5] at h2
   have:=(List.getElem?_eq_some_iff.1 h2).1;simp at this;omega
  replace jh:q'.isAgg=false:=jh.trans hp
  have he:zAx p 0 [q']=q':=by cases p<;>first | rfl | simp [PV.isAgg] at hp
  rw [he]
  refine ⟨by simpa using j4,?_,jh⟩
  rw [j5];cases q'<;>first | rfl | simp [PV.isAgg] at jh
end
theorem zEk {α β:Type} {f:α→β}:∀ {xs:List α} {i:Nat} {x y:α},xs[i]? = some x→f y=f x→(xs.set i y).map f=xs.map f
 | [],_,_,_,h,_=>by simp at h
 | z::xs,0,x,y,h,e=>by simp at h;subst h;simp [e]
 | z::xs,i+1,x,y,h,e=>by
  have:=zEk (xs:=xs) (i:=i) (by simpa using h) e
  simpa using this
theorem zDY {sz:Nat}:∀ {us:List Value},(∀ u∈us,u.cells.size=sz)→∀ {i c:Nat} {x u:Value},us[i]? = some x→x.cells.toList[c]? = some u→(flat us)[i*sz+c]? = some u
 | [],_,_,_,_,_,h,_=>by simp at h
 | y::us,hs,0,c,x,u,h,hc=>by
  simp at h;subst h
  have:c<y.cells.toList.length:=(List.getElem?_eq_some_iff.1 hc).1
  simp only [flat,List.flatMap_cons,Nat.zero_mul,Nat.zero_add]
  rw [List.getElem?_append_left this];exact hc
 | y::us,hs,i+1,c,x,u,h,hc=>by
  have ih:=zDY (us:=us) (fun u hu=>hs u (by simp [hu])) (i:=i) (by simpa using h) hc
  have hy:y.cells.toList.length=sz:=by simpa using hs y (by simp)
  simp only [flat,List.flatMap_cons]
  rw [List.getElem?_append_right (by rw [hy,Nat.succ_mul];omega),hy]
  rw [show (i+1)*sz+c-sz=i*sz+c by rw [Nat.succ_mul];omega]
  exact ih
theorem zC7 {c:Array Value} {o n k:Nat} {u:Value} (h:(seg c o n)[k]? = some u):c[o+k]? = some u:=by
 simp only [seg,List.getElem?_take,List.getElem?_drop] at h
 split at h
 ·simpa using h
 ·cases h
theorem zCK {w:World} {b:Nat} {c:Array Value} (h:zJP w b c) (k:Nat):w.cell? ⟨b,k,none⟩=c[k]?:=by
 obtain ⟨e,fz,h⟩:=h
 simp [World.cell?,h]
theorem zEB.any {w:World} {b:Nat} {c:Array Value} (h:zEB w b c):zJP w b c:=by
 obtain ⟨e,h⟩:=h;exact ⟨e,_,h⟩
def zGF (A:Al):PV→Al
 | .own .. => zB5
 | _=>A
theorem zJ7 {A A':Al} {p:PV} (hA:∀ a v,a.isWay=true→A a v→A' a v):∀ a v,a.isWay=true→zGF A p a v→zGF A' p a v:=by
 intro a v hw h
 cases p<;>first | exact hA a v hw h | exact h.elim
section
variable {w w':World} {Φ Φ':Nat→Prop} {A:Al}
theorem Rep.child {p:PV} {v:Value} {L:List Nat} (h:Rep w Φ A p v L) {i c:Nat} {q:PV} (hq:child p i c=some q) :
  ∃ u La Li Lb,kid w v p i c=some u∧L=La++Li++Lb∧Rep w Φ (zGF A p) q u Li ∧
   (∀ w' Φ' (A':Al) q' Li' p',(∀ a v,a.isWay=true→A a v→A' a v)→zDe w w' Φ Φ'→(∀ b∈La++Lb,w'.heap[b]? = w.heap[b]?)→q'.isAgg=q.isAgg→Rep w' Φ' (zGF A' p) q' u Li'→zBQ p i c q'=some p'→Rep w' Φ' A' p' v (La++Li'++Lb)) ∧
   (∀ w',(∀ b∈La++Lb,w'.heap[b]? = w.heap[b]?)→∀ q' p',zBQ p i c q'=some p'→∀ i2 c2,kid w' v p' i2 c2=kid w v p i2 c2) ∧
   ∀ i2 c2 q2,(i2,c2)≠(i,c)→Eng.child p i2 c2=some q2→∃ u2 L2,kid w v p i2 c2=some u2∧Rep w Φ (zGF A p) q2 u2 L2∧∀ b∈L2,b∈La++Lb:=by
 cases p<;>simp only [Eng.child,zAY,Option.bind_none,Option.bind_some] at hq<;>try cases hq
 case agg cs =>
  obtain ⟨vs,rfl,h⟩:=h
  have hi:i=0:=by
   cases i with
   | zero=>rfl
   | succ i=>simp at hq
  subst hi;simp [PV.cells] at hq
  obtain ⟨u,La,Li,Lb,hu,rfl,hr,hk,ho⟩:=h.split (i:=c) (p:=q) (by simpa using hq)
  refine ⟨u,La,Li,Lb,by simpa [kid] using hu,rfl,hr,fun w' Φ' A' q' Li' p' hA hs hb _ j4 hp=>?_,?_,?_⟩
  rotate_left
  ·intro w' hb q' p' hp i2 c2
   simp only [zBQ,zAY,zAB,zAx,Option.bind_some,List.getElem?_cons_zero,List.set_cons_zero] at hp
   cases hp;rfl
  ·intro i2 c2 q2 hI h2
   have vW:i2=0:=by
    cases i2 with
    | zero=>rfl
    | succ i=>simp [Eng.child,zAY] at h2
   subst vW
   simp [Eng.child,zAY,PV.cells] at h2
   obtain ⟨u2,L2,h3,h4,h5⟩:=ho c2 q2 (fun e=>hI (by rw [e])) h2
   exact ⟨u2,L2,by simpa [kid] using h3,h4,h5⟩
  have hc:c<cs.length:=(List.getElem?_eq_some_iff.1 hq).1
  have he:cs.take c++[q']++cs.drop (c+1)=cs.set c q':=by
   rw [List.set_eq_take_append_cons_drop,if_pos hc];simp
  simp only [zBQ,zAY,zAB,zAx,Option.bind_some,List.getElem?_cons_zero,List.set_cons_zero,List.length_singleton,he] at hp
  cases hp
  exact ⟨vs,rfl,hk w' Φ' A' q' Li' hA hs hb j4⟩
 case box q0 =>
  obtain ⟨a,r,u0,L',rfl,h1,h2,h4,h5,⟨h6,ug⟩,h7⟩:=h
  have hi:i=0:=by
   cases i with
   | zero=>rfl
   | succ i=>simp at hq
  subst hi;simp at hq
  obtain ⟨u,La,Li,Lb,hu,rfl,hr,hk,ho⟩:=h7.cell hq ug
  have jx:∀ c2 u2,u0.cells.toList[c2]? = some u2→kid w v (.box q0) 0 c2=some u2:=by
   intro c2 u2 h
   subst h1
   have:=zC7 (c:=r) (o:=a.off) (n:=q0.cells.length) (k:=c2) (u:=u2) (by rw [h5];exact h)
   simp only [kid,zAr]
   rw [zCK h4.any];exact this
  refine ⟨u,a.block::La,Li,Lb,?_,by simp,hr,fun w' Φ' A' q' Li' p' hA hs hb jh j4 hp=>?_,?_,?_⟩
  rotate_left 2
  ·intro w' hb q' p' hp i2 c2
   simp only [zBQ,zAY,zAB,Option.bind_some,List.getElem?_cons_zero,List.set_cons_zero] at hp
   cases hp;subst h1
   simp only [kid,World.cell?,zAr]
   rw [hb a.block (by simp)]
  ·intro i2 c2 q2 hI h2
   have vW:i2=0:=by
    cases i2 with
    | zero=>rfl
    | succ i=>simp [Eng.child,zAY] at h2
   subst vW
   simp [Eng.child,zAY] at h2
   obtain ⟨u2,L2,h3,qp,h5'⟩:=ho c2 q2 (fun e=>hI (by rw [e])) h2
   exact ⟨u2,L2,jx c2 u2 h3,qp,fun b hb=>by have:=h5' b hb;simp at this ⊢;rcases this with h | h<;>simp [h]⟩
  ·subst h1
   have:c<q0.cells.length:=(List.getElem?_eq_some_iff.1 hq).1
   have:=zC7 (c:=r) (o:=a.off) (n:=q0.cells.length) (k:=c) (u:=u) (by rw [h5];exact hu)
   simp only [kid,zAr]
   rw [zCK h4.any];exact this
  ·obtain ⟨hx,hl,hg⟩:=hk w' Φ' A' q' Li' hA hs (fun b h=>hb b (by simp at h ⊢;rcases h with h | h<;>simp [h])) jh j4
   simp only [zBQ,zAY,zAB,Option.bind_some,List.getElem?_cons_zero,List.set_cons_zero] at hp
   cases hp
   obtain ⟨e,h4⟩:=h4
   refine ⟨a,r,u0,La++Li'++Lb,by simp,h1,h2,⟨e,?_⟩,by rw [hl];exact h5,⟨by rw [hl];exact h6,by rw [hg];exact ug⟩,hx⟩
   rw [hb a.block (by simp)];exact h4
 case own sz xs =>
  obtain ⟨h1,h2,h3⟩ | ⟨a,n,r,us,L',rfl,h1,h2,h3,h4,h5,h6,⟨h7,uJ⟩,h8,h9⟩:=h
  ·subst h1;simp at hq
  ·cases hx:xs[i]? with
   | none=>rw [hx] at hq;simp at hq
   | some x =>
    rw [hx] at hq;simp at hq
    obtain ⟨ux,La,Li,Lb,hu,rfl,hr,hk,ho⟩:=h9.split hx
    have hg:zCa ux=x.isAgg:=by
     have h1:(us.map zCa)[i]? = some (zCa ux):=by simp [hu]
     have h2:(xs.map PV.isAgg)[i]? = some x.isAgg:=by simp [hx]
     rw [uJ] at h1;rw [h1] at h2;simpa using h2
    obtain ⟨u,La',Li',Lb',hu',rfl,j4,wS,ho'⟩:=hr.cell hq hg
    have jx:∀ i2 c2 x2 u2,us[i2]? = some x2→x2.cells.toList[c2]? = some u2→kid w v (.own sz xs) i2 c2=some u2:=by
     intro i2 c2 x2 u2 jW wd
     subst h1
     have hf:=zDY h7 jW wd
     rw [← h8] at hf
     have:=zC7 hf
     simp only [kid,zAr]
     rw [zCK h4.any];exact this
    refine ⟨u,a.block::(La++La'),Li',Lb'++Lb,?_,by simp,j4,fun w' Φ' A' q' Lj p' hA hs hb jh hrq hp=>?_,?_,?_⟩
    rotate_left 2
    ·intro w' hb q' p' hp i2 c2
     simp only [zBQ,zAY,zAB,Option.bind_some,hx] at hp
     cases hp;subst h1
     simp only [kid,World.cell?,zAr]
     rw [hb a.block (by simp)]
    ·intro i2 c2 q2 hI h2
     simp only [Eng.child,zAY,Option.bind_some] at h2
     cases jW:xs[i2]? with
     | none=>rw [jW] at h2;cases h2
     | some x2 =>
      rw [jW] at h2;simp only [Option.bind_some] at h2
      by_cases ka:i2=i
      ·subst ka
       rw [hx] at jW;cases jW
       obtain ⟨u2,L2,h3,qp,h5'⟩:=ho' c2 q2 (fun e=>hI (by rw [e])) h2
       exact ⟨u2,L2,jx _ _ _ _ hu h3,qp,fun b hb=>by have:=h5' b hb;simp at this ⊢;rcases this with h | h<;>simp [h]⟩
      ·obtain ⟨ux2,L2,h3,qp,h5'⟩:=ho i2 x2 ka jW
       have qJ:zCa ux2=x2.isAgg:=by
        have h1:(us.map zCa)[i2]? = some (zCa ux2):=by simp [h3]
        have h2:(xs.map PV.isAgg)[i2]? = some x2.isAgg:=by simp [jW]
        rw [uJ] at h1;rw [h1] at h2;simpa using h2
       obtain ⟨u2,Ma,Mi,Mb,ug,rfl,h7'',_⟩:=qp.cell h2 qJ
       exact ⟨u2,Mi,jx _ _ _ _ h3 ug,h7'',fun b hb=>by have:=h5' b (by simp [hb]);simp at this ⊢;rcases this with h | h<;>simp [h]⟩
    ·subst h1
     have hf:=zDY h7 hu hu'
     rw [← h8] at hf
     have:=zC7 hf
     simp only [kid,zAr]
     rw [zCK h4.any];exact this
    ·obtain ⟨jy,hl,hg'⟩:=wS w' Φ' zB5 q' Lj (fun _ _ _ h=>h) hs (fun b h=>hb b (by simp at h ⊢;rcases h with h | h<;>simp [h])) jh hrq
     have hk:=hk w' Φ' zB5 _ _ (fun _ _ _ h=>h) hs (fun b h=>hb b (by simp at h ⊢;rcases h with h | h<;>simp [h])) jy
     simp only [zBQ,zAY,zAB,Option.bind_some,hx] at hp
     cases hp
     obtain ⟨e,h4⟩:=h4
     refine .inr ⟨a,n,r,us,La++(La'++Lj++Lb')++Lb,by simp,by simpa using h1,h2,by simpa using h3,⟨e,?_⟩,h5,?_,⟨h7,?_⟩,by simpa using h8,hk⟩
     ·rw [hb a.block (by simp)];exact h4
     ·intro y hy
      rcases List.mem_or_eq_of_mem_set hy with hy | hy
      ·exact h6 y hy
      ·rw [hy,hl];exact h6 x (List.mem_of_getElem? hx)
     ·rw [uJ,zEk hx hg']
end
def zIe:Al→PV→zAQ→Al
 | A,_,[]=>A
 | A,p,(i,c)::rest=>match child p i c with
  | some q=>zIe (zGF A p) q rest
  | none=>zB5
theorem zDZ {p:PV} {i c:Nat} {q' p':PV} (h:zBQ p i c q'=some p'):p'.isAgg=p.isAgg:=by
 simp only [zBQ] at h
 cases p<;>simp only [zAY,Option.bind_none,Option.bind_some] at h<;>try cases h
 case own sz xs =>
  cases hx:xs[i]?<;>rw [hx] at h<;>simp [zAB] at h
  subst h;rfl
 case box q =>
  cases i with
  | zero=>simp [zAB] at h;subst h;rfl
  | succ i=>simp at h
 case agg cs =>
  cases i with
  | zero=>simp [zAB,zAx] at h;subst h;rfl
  | succ i=>simp at h
def zCc:PV→PV→Prop
 | .own sz _,.own sz' _=>sz=sz'
 | .box _,.box _=>True
 | .omap _,.omap _=>True
 | _,_=>False
theorem zCc.refl {p:PV} (h:p.heavy0=true):zCc p p:=by
 cases p<;>simp_all [PV.heavy0,zCc]
theorem zME {x q q':PV} {c:Nat} (hq:x.cells[c]? = some q) (hg:q'.isAgg=q.isAgg):(zAx x c [q']).cells=x.cells.set c q':=by
 cases hx:x.isAgg with
 | true =>
  cases x<;>simp [PV.isAgg] at hx
  rename_i cs
  have hc:c<cs.length:=(List.getElem?_eq_some_iff.1 hq).1
  show cs.take c++[q']++cs.drop (c+1)=cs.set c q'
  rw [List.set_eq_take_append_cons_drop,if_pos hc];simp
 | false =>
  have j5:x.cells=[x]:=by cases x<;>first | rfl | simp [PV.isAgg] at hx
  rw [j5] at hq ⊢
  have hc:c=0:=by have:=(List.getElem?_eq_some_iff.1 hq).1;simp at this;exact this
  subst hc;simp at hq;subst hq
  have he:zAx x 0 [q']=q':=by cases x<;>first | rfl | simp [PV.isAgg] at hx
  rw [he]
  rw [hx] at hg
  cases q'<;>first | rfl | simp [PV.isAgg] at hg
theorem zRc {p q q' p':PV} {i c:Nat} (hc:Eng.child p i c=some q) (hg:q'.isAgg=q.isAgg) (hp:zBQ p i c q'=some p') :
  Eng.child p' i c=some q'∧∀ i2 c2,(i2,c2)≠(i,c)→Eng.child p' i2 c2=Eng.child p i2 c2:=by
 simp only [Eng.child] at hc
 simp only [zBQ] at hp
 cases hh:zAY p with
 | none=>rw [hh] at hc;cases hc
 | some xs =>
  rw [hh] at hc hp;simp only [Option.bind_some] at hc hp
  cases hx:xs[i]? with
  | none=>rw [hx] at hc;cases hc
  | some x =>
   rw [hx] at hc hp;simp only [Option.bind_some] at hc hp
   have yi:=zME hc hg
   have hi:i<xs.length:=(List.getElem?_eq_some_iff.1 hx).1
   have yN:c<x.cells.length:=(List.getElem?_eq_some_iff.1 hc).1
   have qq:zAY p'=some (xs.set i (zAx x c [q'])):=by
    cases p<;>simp only [zAY] at hh<;>try cases hh
    case agg cs =>
     have ji:i=0:=by simpa using hi
     subst ji
     simp only [List.getElem?_cons_zero,Option.some.injEq] at hx;subst hx
     simp only [zAx,List.set_cons_zero,zAB,Option.some.injEq] at hp ⊢
     subst hp;rfl
    case own sz =>
     simp only [zAB,Option.some.injEq] at hp
     subst hp;rfl
    case box q0 =>
     have ji:i=0:=by simpa using hi
     subst ji
     simp only [List.set_cons_zero,zAB,Option.some.injEq] at hp ⊢
     subst hp;rfl
   refine ⟨?_,fun i2 c2 hI=>?_⟩
   ·simp only [Eng.child,qq,Option.bind_some,List.getElem?_set_self hi,yi,List.getElem?_set_self yN]
   ·simp only [Eng.child,qq,hh,Option.bind_some]
    by_cases ka:i2=i
    ·subst ka
     rw [List.getElem?_set_self hi,hx];simp only [Option.bind_some,yi]
     rw [List.getElem?_set_ne (by intro e;exact hI (by rw [e]))]
    ·rw [List.getElem?_set_ne (by omega)]
section
variable {w w':World} {Φ Φ':Nat→Prop}
theorem zFb {A:Al}:∀ {pre:zAQ} {p:PV} {v:Value} {L:List Nat},Rep w Φ A p v L→(∀ b∈L,w'.heap[b]? = w.heap[b]?)→zAO w' v p pre=zAO w v p pre
 | [],_,_,_,_,_=>rfl
 | (i, c)::rest,p,v,L,h,hb=>by
  rw [zA0,zA0]
  cases hc:Eng.child p i c with
  | none=>rfl
  | some q =>
   simp only [Option.bind_some]
   obtain ⟨u,La,Li,Lb,hk,rfl,hr,_⟩:=h.child hc
   have wS:kid w' v p i c=kid w v p i c:=by
    cases p<;>first | (simp [Eng.child,zAY] at hc;done) | skip
    ·obtain ⟨vs,rfl,_⟩:=h;rfl
    ·obtain ⟨h1,h2,h3⟩ | ⟨a,n,r,us,L',h0,h1,h2,_⟩:=h
     ·subst h1;simp [Eng.child,zAY] at hc
     ·subst h1;simp only [kid]
      exact World.cell?_of_block (w:=w) (hb _ (by rw [h0];simp [zAr]))
    ·obtain ⟨a,r,u0,L',h0,h1,_⟩:=h
     subst h1;simp only [kid]
     exact World.cell?_of_block (w:=w) (hb _ (by rw [h0];simp [zAr]))
   rw [wS,hk];simp only [Option.bind_some]
   exact zFb hr fun b h=>hb b (by simp [h])
theorem zLn {p p' q':PV} {i c:Nat} (hp:zBQ p i c q'=some p') (hh:p'.heavy0=true):zCc p p':=by
 simp only [zBQ] at hp
 cases p<;>simp only [zAY,Option.bind_none,Option.bind_some] at hp<;>try cases hp
 case own sz xs =>
  cases hx:xs[i]?<;>rw [hx] at hp<;>simp [zAB] at hp
  subst hp;rfl
 case box q =>
  cases i with
  | zero=>simp [zAB] at hp;subst hp;trivial
  | succ i=>simp at hp
 case agg cs =>
  cases i with
  | zero=>simp [zAB,zAx] at hp;subst hp;cases hh
  | succ i=>simp at hp
theorem Rep.zip : ∀ (pre:zAQ) {A:Al} {p:PV} {v:Value} {L:List Nat} {q:PV},Rep w Φ A p v L→zAy p pre=some q →
  ∃ nv La Li Lb,zAO w v p pre=some (nv,q)∧L=La++Li++Lb∧Rep w Φ (zIe A p pre) q nv Li ∧
   (∀ w' Φ' (A':Al) q' Li' p',(∀ a v,a.isWay=true→A a v→A' a v)→zDe w w' Φ Φ'→(∀ b∈La++Lb,w'.heap[b]? = w.heap[b]?)→(pre≠[]→q'.isAgg=q.isAgg)→Rep w' Φ' (zIe A' p pre) q' nv Li' →
    zAt (fun _=>some q') p pre=some p'→Rep w' Φ' A' p' v (La++Li'++Lb)) ∧
   ∀ w' q' p',(∀ b∈La++Lb,w'.heap[b]? = w.heap[b]?)→(pre≠[]→q'.isAgg=q.isAgg)→zAt (fun _=>some q') p pre=some p' →
    ∀ pth nv2 np2,zAO w' v p' pth=some (nv2,np2)→np2.heavy0=true →
     (∃ rest,pth=pre++rest∧zAO w' nv q' rest=some (nv2,np2))∨∃ np0,zAO w v p pth=some (nv2,np0)∧zCc np0 np2
 | [],A,p,v,L,q,h,hq=>by
  simp only [zAy] at hq;cases hq
  refine ⟨v,[],L,[],rfl,by simp,h,fun w' Φ' A' q' Li' p' hA hs hb _ hr hp=>?_,fun w' q' p' hb _ hp pth nv2 np2 hf hh=>?_⟩
  ·simp only [zAt] at hp;cases hp
   simpa [zIe] using hr
  ·simp only [zAt] at hp;cases hp
   exact .inl ⟨pth,rfl,hf⟩
 | (i, c) :: rest,A,p,v,L,q,h,hq=>by
  rw [zB0] at hq
  cases hc:Eng.child p i c with
  | none=>rw [hc] at hq;cases hq
  | some q1 =>
   rw [hc] at hq;simp only [Option.bind_some] at hq
   obtain ⟨u,La,Li,Lb,hu,rfl,hr,hk,jx,vE⟩:=h.child hc
   obtain ⟨nv,Ma,Mi,Mb,hf,rfl,qo,uh,uR⟩:=Rep.zip rest hr hq
   have yr:∀ q' q1',zAt (fun _=>some q') q1 rest=some q1'→q'.isAgg=q.isAgg→q1'.isAgg=q1.isAgg:=by
    intro q' q1' hm jh
    cases rest with
    | nil =>
     simp only [zAt] at hm;cases hm
     simp only [zAy] at hq;cases hq
     exact jh
    | cons x rest =>
     obtain ⟨i2,c2⟩:=x
     rw [zBi] at hm
     cases jA:Eng.child q1 i2 c2 with
     | none=>rw [jA] at hm;cases hm
     | some q2 =>
      rw [jA] at hm;simp only [Option.bind_some] at hm
      cases vX:zAt (fun _=>some q') q2 rest with
      | none=>rw [vX] at hm;cases hm
      | some q2'=>rw [vX] at hm;exact zDZ (by simpa using hm)
   refine ⟨nv,La++Ma,Mi,Mb++Lb,?_,by simp,?_,fun w' Φ' A' q' Li' p' hA hs hb jh j4 hp=>?_,fun w' q' p' hb jh hp pth nv2 np2 jz hh=>?_⟩
   rotate_left 3
   ·rw [zBi,hc] at hp;simp only [Option.bind_some] at hp
    cases hm:zAt (fun _=>some q') q1 rest with
    | none=>rw [hm] at hp;cases hp
    | some q1' =>
     rw [hm] at hp;simp only [Option.bind_some] at hp
     have y7:∀ b∈La++Lb,w'.heap[b]? = w.heap[b]?:=fun b h=>hb b (by simp at h ⊢;rcases h with h | h<;>simp [h])
     have j6:∀ b∈Ma++Mb,w'.heap[b]? = w.heap[b]?:=fun b h=>hb b (by simp at h ⊢;rcases h with h | h<;>simp [h])
     have hg:q1'.isAgg=q1.isAgg:=yr q' q1' hm (jh (by simp))
     obtain ⟨ya,hoc⟩:=zRc hc hg hp
     cases pth with
     | nil =>
      simp only [zAO,Option.some.injEq,Prod.mk.injEq] at jz
      obtain ⟨rfl,rfl⟩:=jz
      exact .inr ⟨p,rfl,zLn hp hh⟩
     | cons x pth =>
      obtain ⟨i2,c2⟩:=x
      rw [zA0] at jz
      by_cases jB:(i2,c2)=(i,c)
      ·cases jB
       rw [ya] at jz;simp only [Option.bind_some] at jz
       rw [jx w' y7 q1' p' hp,hu] at jz;simp only [Option.bind_some] at jz
       rcases uR w' q' q1' j6 (fun _=>jh (by simp)) hm pth nv2 np2 jz hh with ⟨rst,rfl,h3⟩ | ⟨np0,h3,h4⟩
       ·exact .inl ⟨rst,rfl,h3⟩
       ·refine .inr ⟨np0,?_,h4⟩
        rw [zA0,hc];simp only [Option.bind_some];rw [hu];exact h3
      ·rw [hoc i2 c2 jB] at jz
       cases jA:Eng.child p i2 c2 with
       | none=>rw [jA] at jz;cases jz
       | some q2 =>
        rw [jA] at jz;simp only [Option.bind_some] at jz
        obtain ⟨u2,L2,h3,h4,h5⟩:=vE i2 c2 q2 jB jA
        rw [jx w' y7 q1' p' hp,h3] at jz;simp only [Option.bind_some] at jz
        rw [zFb h4 fun b yI=>y7 b (h5 b yI)] at jz
        refine .inr ⟨np2,?_,zCc.refl hh⟩
        rw [zA0,jA];simp only [Option.bind_some];rw [h3];exact jz
   ·rw [zA0,hc];simp only [Option.bind_some];rw [hu];simpa using hf
   ·simpa only [zIe,hc] using qo
   ·rw [zBi,hc] at hp;simp only [Option.bind_some] at hp
    cases hm:zAt (fun _=>some q') q1 rest with
    | none=>rw [hm] at hp;cases hp
    | some q1' =>
     rw [hm] at hp;simp only [Option.bind_some] at hp
     simp only [zIe,hc] at j4
     have h2:=uh w' Φ' (zGF A' p) q' Li' q1' (zJ7 hA) hs (fun b h=>hb b (by simp at h ⊢;rcases h with h | h<;>simp [h])) (fun _=>jh (by simp)) j4 hm
     have hg:q1'.isAgg=q1.isAgg:=yr q' q1' hm (jh (by simp))
     have:=hk w' Φ' A' q1' _ p' hA hs (fun b h=>hb b (by simp at h ⊢;rcases h with h | h<;>simp [h])) hg h2 hp
     simpa using this
end
section
variable {w:World} {Φ:Nat→Prop} {rv:Nat→Value} {E:Nat→PV}
theorem zMM {r:Nat} {pre:zAQ} {p:PV} {v:Value} {L:List Nat} (hr:r<zAb) (hf:zAO w (rv r) (E r).unlock pre=some (v,p))
  (h:Rep w Φ (zA1 w rv E) p v L):Rep w Φ (zA1 w rv E) (zG0 r pre p) v []:=by
 cases p with
 | own sz xs =>
  refine ⟨rfl,hr,?_,?_⟩
  ·obtain ⟨h1,h2,h3⟩ | ⟨a,n,c,us,L',h0,h1,h2,h3,h4⟩:=h
   ·subst h1;exact ⟨none,0,h3,by simp,by simp,by simp⟩
   ·exact ⟨some a,n,h1,h3,by simp,fun b hb=>by cases hb;exact h2⟩
  ·intro nv np hn _
   rw [hf] at hn;cases hn
   refine ⟨sz,xs,rfl,rfl,?_⟩
   obtain ⟨h1,h2,h3⟩ | ⟨a,n,c,us,L',h0,h1,h2,h3,h4⟩:=h
   ·subst h1;subst h3;exact ⟨rfl,rfl⟩
   ·subst h1
    have:zAr a (0*sz)=a:=by cases a;simp_all [zAr]
    exact ⟨by rw [this];rfl,by simpa using h3⟩
 | box q =>
  obtain ⟨a,c,u,L',h0,h1,h2,h4⟩:=h
  refine ⟨rfl,hr,a,h1,h2,?_⟩
  intro nv np hn a' ha
  rw [hf] at hn;cases hn;subst h1
  have:zAr a 0=a:=by cases a;simp_all [zAr]
  simp only [zA2,this] at ha;cases ha;rfl
 | omap es =>
  obtain ⟨b,ents,h0,h1,h4⟩:=h
  refine ⟨rfl,hr,⟨b,h1⟩,?_⟩
  intro nv np hn es' he
  rw [hf] at hn;cases hn;rfl
 | agg cs=>rfl
 | tup cs=>rfl
 | lock q=>rfl
 | _=>simp_all [zG0,Rep]
end
end Go.Eng
namespace Go.Eng
open Go
theorem zDG {p q:PV} (h:zCc p q):p.heavy0=true:=by cases p<;>cases q<;>first | rfl | cases h
def zA3:PV→Nat×zAQ
 | .addr r pre .. => (r,pre)
 | .bor r pre .. => (r,pre)
 | .bsl r pre .. => (r,pre)
 | .bmap r pre=>(r,pre)
 | _=>(0,[])
theorem zEh {nv:Value} {p q:PV} {i c:Nat} (h:zCc p q):zA2 nv p i c=zA2 nv q i c:=by
 cases p<;>cases q<;>simp only [zCc] at h
 ·subst h;cases nv with
  | slice a _ _=>cases a<;>rfl
  | pointer a=>cases a<;>rfl
  | _=>rfl
 ·cases nv with
  | pointer a=>cases a<;>cases i<;>rfl
  | slice a _ _=>cases a<;>rfl
  | _=>rfl
 ·cases nv with
  | pointer a=>cases a<;>cases i<;>rfl
  | slice a _ _=>cases a<;>rfl
  | _=>rfl
section
variable {w w':World} {Φ Φ':Nat→Prop} {rv rv':Nat→Value} {E E':Nat→PV}
theorem zA1.mono {a:PV} {v:Value} (h:zA1 w rv E a v)
  (hf:∀ nv np,zAO w' (rv' (zA3 a).1) (E' (zA3 a).1).unlock (zA3 a).2=some (nv,np)→np.heavy0=true →
   ∃ np0,zAO w (rv (zA3 a).1) (E (zA3 a).1).unlock (zA3 a).2=some (nv,np0)∧zCc np0 np):zA1 w' rv' E' a v:=by
 have key:∀ nv np i c a',zA2 nv np i c=some a'→np.heavy0=true:=by
  intro nv np i c a' h
  cases np<;>first | rfl | (simp [zA2] at h)
 have key2:∀ nv np np0 i c a',zA2 nv np i c=some a'→zCc np0 np→zA2 nv np0 i c=some a':=by
  intro nv np np0 i c a' h hl;rw [zEh hl];exact h
 cases a<;>simp only [zA1] at h ⊢
 case addr r pre i c sh =>
  obtain ⟨hr,a,h1,h2,h3⟩:=h
  refine ⟨hr,a,h1,h2,fun nv np hn a' ha=>?_⟩
  obtain ⟨np0,kO,hl⟩:=hf nv np hn (key _ _ _ _ _ ha)
  exact h3 nv np0 kO a' (key2 _ _ _ _ _ _ ha hl)
 case bor r pre z lo n =>
  obtain ⟨hr,h1,h3⟩:=h
  refine ⟨hr,h1,fun nv np hn hh=>?_⟩
  obtain ⟨np0,kO,hl⟩:=hf nv _ hn hh
  obtain ⟨sz,xs,he,hz,jS⟩:=h3 nv np0 kO (zDG hl)
  subst he
  cases np<;>simp only [zCc] at hl
  subst hl
  exact ⟨_,_,rfl,hz,jS⟩
 case bsl r pre i c sz ag n =>
  obtain ⟨hr,a,cap,h1,h2,jg,h3⟩:=h
  refine ⟨hr,a,cap,h1,h2,jg,fun nv np hn a' ha=>?_⟩
  obtain ⟨np0,kO,hl⟩:=hf nv np hn (key _ _ _ _ _ ha)
  exact h3 nv np0 kO a' (key2 _ _ _ _ _ _ ha hl)
 case bmap r pre =>
  obtain ⟨hr,h1,h3⟩:=h
  refine ⟨hr,h1,fun nv np hn es he=>?_⟩
  subst he
  obtain ⟨np0,kO,hl⟩:=hf nv _ hn rfl
  cases np0<;>simp only [zCc] at hl
  exact h3 nv _ kO _ rfl
theorem zEq:∀ {ps:List PV} {i:Nat} {p:PV},zCW ps=false→ps[i]? = some p→p.heavy=false
 | [],_,_,_,h=>by simp at h
 | q::ps,0,p,hh,h=>by
  simp at h;subst h
  simp only [zCW,Bool.or_eq_false_iff] at hh;exact hh.1
 | q::ps,i+1,p,hh,h=>by
  simp only [zCW,Bool.or_eq_false_iff] at hh
  exact zEq hh.2 (by simpa using h)
theorem zEo:∀ {pre:zAQ} {p:PV} {v nv:Value} {np:PV},p.heavy=false→zAO w v p pre=some (nv,np)→np.heavy=false
 | [],p,v,nv,np,hp,h=>by simp only [zAO] at h;cases h;exact hp
 | (i, c)::rest,p,v,nv,np,hp,h=>by
  rw [zA0] at h
  cases hc:Eng.child p i c with
  | none=>rw [hc] at h;cases h
  | some q =>
   rw [hc] at h;simp only [Option.bind_some] at h
   cases hk:kid w v p i c with
   | none=>rw [hk] at h;cases h
   | some u =>
    rw [hk] at h;simp only [Option.bind_some] at h
    refine zEo ?_ h
    cases p<;>first | (simp [Eng.child,zAY] at hc;done) | (simp [PV.heavy] at hp;done) | skip
    rename_i cs
    cases i with
    | zero=>simp [Eng.child,zAY,PV.cells] at hc;exact zEq hp hc
    | succ i=>simp [Eng.child,zAY] at hc
theorem zFN {p:PV} (h:p.heavy0=true):p.heavy=true:=by
 cases p<;>simp_all [PV.heavy0,PV.heavy]
structure Conf (w0:World) (U Φ0:Nat→Prop) (w:World) (Φ:Nat→Prop) (rv:Nat→Value) (E:Nat→PV) (L:Nat→List Nat):Prop where
 rep:∀ s,Rep w Φ (zA1 w rv E) (E s) (rv s) (L s)
 nodup:∀ s,(L s).Nodup
 disj:∀ s s',s≠s'→∀ b∈L s,b∉L s'
 own:∀ s,∀ b∈L s,b<w.heap.size∧¬ Φ b∧(U b∨w0.heap.size≤b)
 frz:∀ b,Φ b→b<w.heap.size∧(Φ0 b∨U b∨w0.heap.size≤b)
 frz0:∀ b,Φ0 b→Φ b
 size:w0.heap.size≤w.heap.size
 kept:∀ b,b<w0.heap.size→¬ U b→w.heap[b]? = w0.heap[b]?
 os:w.os=w0.os
 tape:w.tape=w0.tape
 output:w.output=w0.output
def upd {α:Type} (f:Nat→α) (s:Nat) (x:α):Nat→α:=fun t=>if t=s then x else f t
theorem zAk {α:Type} {f:Nat→α} {s:Nat} {x:α}:upd f s x s=x:=if_pos rfl
theorem zAg {α:Type} {f:Nat→α} {s t:Nat} {x:α} (h:t≠s):upd f s x t=f t:=if_neg h
theorem zBY {A:Al} {p:PV} {v:Value} {L:List Nat} (h:Rep w Φ A p v L):Rep w Φ A p.unlock v L:=by cases p<;>exact h
theorem zC9:∀ (a b:zAQ) (v:Value) (p:PV),zAO w v p (a++b)=(zAO w v p a).bind fun x=>zAO w x.1 x.2 b
 | [],b,v,p=>rfl
 | (i,c)::a,b,v,p=>by
  rw [List.cons_append,zA0,zA0]
  cases Eng.child p i c with
  | none=>rfl
  | some q =>
   simp only [Option.bind_some]
   cases kid w v p i c with
   | none=>rfl
   | some u=>simp only [Option.bind_some];exact zC9 a b u q
theorem zKF {v:Value} {p:PV} {i c:Nat}:zAO w v p [(i,c)]=(Eng.child p i c).bind fun q=>(kid w v p i c).bind fun u=>some (u,q):=by
 rw [zA0];rfl
theorem zAX.part {A:Al}:∀ {ps:List PV} {us:List Value} {L:List Nat},zAX w Φ A ps us L→∀ c n,∃ L',zAX w Φ A ((ps.drop c).take n) ((us.drop c).take n) L'
 | [],us,L,h,c,n=>by rw [h.1];exact ⟨[],by simp [zAX]⟩
 | p::ps,us,L,h,0,0=>⟨[],by simp [zAX]⟩
 | p::ps,us,L,h,0,n+1=>by
  obtain ⟨v,vs,L1,L2,rfl,rfl,h1,h2⟩:=h
  obtain ⟨L',h'⟩:=h2.part 0 n
  exact ⟨L1++L',v,_,L1,L',rfl,rfl,h1,by simpa using h'⟩
 | p::ps,us,L,h,c+1,n=>by
  obtain ⟨v,vs,L1,L2,rfl,rfl,h1,h2⟩:=h
  simpa using h2.part c n
theorem zGO {p:PV} {xs:List PV} (h:zA7 p=some xs):zAY p=some xs:=by cases p<;>first | exact h | cases h
theorem zBM {a:Addr} (h:a.spot=none) (j:Nat):a.add j=zAr a j:=by
 obtain ⟨b,o,sp⟩:=a
 simp only at h;subst h
 simp only [Addr.add,zAr]
 split
 ·rename_i hj;subst hj;rfl
 ·rfl
theorem zFU (a:Addr) (k j:Nat):(zAr a k).add j=zAr a (k+j):=by
 rw [zBM rfl];simp [zAr,Nat.add_assoc]
theorem zTr {nv:Value} {np:PV} {xs:List PV} {i c j:Nat} {ad:Addr} (h:zA7 np=some xs) (ha:zA2 nv np i c=some ad):kid w nv np i (c+j)=w.cell? (ad.add j):=by
 cases np<;>simp only [zA7] at h<;>try cases h
 ·cases nv with
  | slice a _ _ =>
   cases a with
   | none=>cases ha
   | some a=>simp only [zA2] at ha;cases ha;rw [zFU];simp [kid,Nat.add_assoc]
  | pointer a=>cases a<;>cases ha
  | _=>cases ha
 ·cases nv with
  | pointer a =>
   cases a with
   | none=>cases i<;>cases ha
   | some a=>cases i<;>simp only [zA2] at ha<;>cases ha;rw [zFU];simp [kid,Nat.add_assoc]
  | slice a _ _=>cases a<;>cases ha
  | _=>cases ha
theorem zF4 {A:Al} {p:PV} {a:PV} {v:Value} (h:zGF A p a v):A a v:=by
 cases p<;>first | exact h | exact h.elim
theorem zEx:∀ {pre:zAQ} {A:Al} {p:PV} {a:PV} {v:Value},zIe A p pre a v→A a v
 | [],_,_,_,_,h=>h
 | (i,c)::rest,A,p,a,v,h=>by
  simp only [zIe] at h
  cases hc:Eng.child p i c with
  | none=>rw [hc] at h;exact h.elim
  | some q=>rw [hc] at h;exact zF4 (zEx h)
theorem Rep.cellsAll {A:Al} {p:PV} {v:Value} {L:List Nat} (h:Rep w Φ A p v L) (hn:zCa v=p.isAgg):zAX w Φ A p.cells v.cells.toList L:=by
 cases hp:p.isAgg with
 | true =>
  cases p<;>simp [PV.isAgg] at hp
  obtain ⟨vs,rfl,h⟩:=h
  exact h
 | false =>
  have j5:p.cells=[p]:=by cases p<;>first | rfl | simp [PV.isAgg] at hp
  have hv:v.cells=#[v]:=by rw [hp] at hn;cases v<;>first | rfl | simp [zCa] at hn
  rw [j5,hv]
  exact ⟨v,[],L,[],rfl,by simp,h,rfl,rfl⟩
theorem zQC {A:Al} {np:PV} {nv:Value} {Li:List Nat} (h:Rep w Φ A np nv Li) {xs:List PV} (hx:zA7 np=some xs) {i:Nat} {x:PV} (hi:xs[i]? = some x) (c:Nat) :
  ∃ ux ad Lx,(∀ b∈Lx,b∈Li)∧zA2 nv np i c=some ad∧ad.spot=none∧(∀ k u,ux.cells.toList[k]? = some u→∀ j,k=c+j→w.cell? (ad.add j)=some u)∧zCa ux=x.isAgg∧ux.cells.size=x.cells.length∧zAX w Φ (zGF A np) x.cells ux.cells.toList Lx:=by
 cases np<;>simp only [zA7] at hx<;>try cases hx
 case own sz =>
  obtain ⟨h1,h2,h3⟩ | ⟨a,n,r,us,L',rfl,h1,h2,h3,h4,h5,h6,⟨h7,uJ⟩,h8,h9⟩:=h
  ·subst h1;simp at hi
  ·obtain ⟨ux,La,Lx,Lb,hu,rfl,hr,_,_⟩:=h9.split hi
   have hg:zCa ux=x.isAgg:=by
    have h1:(us.map zCa)[i]? = some (zCa ux):=by simp [hu]
    have h2:(xs.map PV.isAgg)[i]? = some x.isAgg:=by simp [hi]
    rw [uJ] at h1;rw [h1] at h2;simpa using h2
   subst h1
   refine ⟨ux,zAr a (i*sz+c),Lx,fun b hb=>by simp [hb],rfl,rfl,?_,hg,?_,hr.cellsAll hg⟩
   ·intro k u hk j hkj
    have hf:=zDY h7 hu hk
    rw [← h8] at hf
    have:=zC7 hf
    rw [zFU,show i*sz+c+j=i*sz+k by omega]
    simp only [zAr];rw [zCK h4.any];exact this
   ·rw [h7 ux (List.mem_of_getElem? hu),h6 x (List.mem_of_getElem? hi)]
 case box q0 =>
  obtain ⟨a,r,u0,L',rfl,h1,h2,h4,h5,⟨h6,ug⟩,h7⟩:=h
  have ji:i=0:=by
   cases i with
   | zero=>rfl
   | succ i=>simp at hi
  subst ji;simp at hi;subst hi
  subst h1
  refine ⟨u0,zAr a c,L',fun b hb=>by simp [hb],rfl,rfl,?_,ug,h6,h7.cellsAll ug⟩
  intro k u hk j hkj
  have:=zC7 (c:=r) (o:=a.off) (n:=q0.cells.length) (k:=k) (u:=u) (by rw [h5];exact hk)
  rw [zFU,← hkj]
  simp only [zAr];rw [zCK h4.any];exact this
theorem zE2 {r i:Nat} {pre:zAQ} (hr:r<zAb):∀ {ps:List PV} {us:List Value} {L:List Nat} {c:Nat},zAX w Φ (zA1 w rv E) ps us L →
  (∀ j p u,ps[j]? = some p→us[j]? = some u→zAO w (rv r) (E r).unlock (pre++[(i,c+j)])=some (u,p))→zAX w Φ (zA1 w rv E) (zBv r pre i c ps) us []
 | [],us,L,c,h,_=>⟨h.1,rfl⟩
 | p::ps,us,L,c,h,hf=>by
  obtain ⟨v,vs,L1,L2,rfl,rfl,h1,h2⟩:=h
  refine ⟨v,vs,[],[],rfl,rfl,zMM hr (hf 0 p v rfl rfl) h1,zE2 hr h2 fun j q u hq hu=>?_⟩
  have:=hf (j+1) q u (by simpa using hq) (by simpa using hu)
  rwa [show c+1+j=c+(j+1) by omega]
section
variable {w0:World} {U Φ0:Nat→Prop} {L:Nat→List Nat}
theorem Conf.view (h:Conf w0 U Φ0 w Φ rv E L) {s:Nat} (hs:s<zAb):Rep w Φ (zA1 w rv E) (view s (E s)) (rv s) []:=by
 have hr:=zBY (h.rep s)
 have hv:Eng.view s (E s)=zSG s (E s).unlock:=by cases E s<;>rfl
 rw [hv]
 have hf:zAO w (rv s) (E s).unlock []=some (rv s,(E s).unlock):=rfl
 have key:∀ p,(E s).unlock=p→Rep w Φ (zA1 w rv E) (zSG s p) (rv s) []:=by
  intro p hp
  rw [hp] at hr hf
  cases p with
  | agg cs =>
   obtain ⟨vs,hv,hr⟩:=hr
   refine ⟨vs,hv,zE2 hs hr fun j p u hj hu=>?_⟩
   rw [zC9,hp,hf,hv]
   show (zAO w (.agg vs) (.agg cs) [(0,0+j)])=_
   rw [zKF]
   have hu:vs[j]? = some u:=by simpa using hu
   simp [Eng.child,zAY,PV.cells,kid,hj,hu]
  | tup cs=>rfl
  | _=>exact zMM (pre:=[]) hs (by rw [hp];exact hf) hr
 exact key _ rfl
theorem Conf.cells (h:Conf w0 U Φ0 w Φ rv E L) {r:Nat} {pre:zAQ} {i c n:Nat} {a:Bool} {qs:List PV} (hr:r<zAb) (hc:zAv r (E r) pre i c n=some (a,qs)) :
  ∃ nv np ad us,zAO w (rv r) (E r).unlock pre=some (nv,np)∧zA2 nv np i c=some ad∧ad.spot=none∧us.length=n∧(∀ j u,us[j]? = some u→w.cell? (ad.add j)=some u)∧zAX w Φ (zA1 w rv E) qs us []:=by
 simp only [zAv] at hc
 cases hn:zAy (E r).unlock pre with
 | none=>rw [hn] at hc;cases hc
 | some np =>
  rw [hn] at hc;simp only at hc
  obtain ⟨nv,La,Li,Lb,hf,hL,hX,_,_⟩:=Rep.zip pre (zBY (h.rep r)) hn
  cases hx:zA7 np with
  | none=>rw [hx] at hc;cases hc
  | some xs =>
   rw [hx] at hc;simp only at hc
   cases hxi:xs[i]? with
   | none=>rw [hxi] at hc;cases hc
   | some x =>
    rw [hxi] at hc;simp only at hc
    by_cases yP:c+n≤x.cells.length
    ·rw [Nat.ble_eq_true_of_le yP] at hc
     simp only [cond_true,Option.some.injEq,Prod.mk.injEq] at hc
     obtain ⟨rfl,rfl⟩:=hc
     obtain ⟨ux,ad,Lx,hA,jH,y4,jj,wg,yF,ui⟩:=zQC hX hx hxi c
     have hZ:ux.cells.toList.length=x.cells.length:=(ui.length)
     refine ⟨nv,np,ad,(ux.cells.toList.drop c).take n,hf,jH,y4,by simp at hZ ⊢;omega,?_,?_⟩
     ·intro j u hj
      simp only [List.getElem?_take,List.getElem?_drop] at hj
      split at hj
      ·exact jj (c+j) u hj j rfl
      ·cases hj
     ·obtain ⟨L',y8⟩:=ui.part c n
      refine zE2 hr (y8.mono (A':=zA1 w rv E) zDe.refl (fun a v hw ha=>zEx (zF4 ha)) (fun _ _=>rfl)) fun j p u hp hu=>?_
      simp only [List.getElem?_take,List.getElem?_drop] at hp hu
      split at hp
      ·rename_i hjn
       rw [if_pos hjn] at hu
       rw [zC9,hf];simp only [Option.bind_some];rw [zKF]
       have ya:Eng.child np i (c+j)=some p:=by
        simp only [Eng.child]
        rw [zGO hx];simp [hxi,hp]
       rw [ya];simp only [Option.bind_some]
       rw [zTr hx jH (j:=j),jj (c+j) u hu j rfl];rfl
      ·cases hp
    ·have:Nat.ble (c+n) x.cells.length=false:=by
      cases hb:Nat.ble (c+n) x.cells.length with
      | false=>rfl
      | true=>exact absurd (Nat.le_of_ble_eq_true hb) yP
     rw [this] at hc;simp at hc
theorem Conf.put (h:Conf w0 U Φ0 w Φ rv E L) {s:Nat} {p:PV} {v:Value} (hp:p.heavy=false) (hr:Rep w Φ (zA1 w rv E) p v []) :
  Conf w0 U Φ0 w Φ (upd rv s v) (upd E s p) (upd L s []):=by
 have hA:∀ a u,a.isWay=true→zA1 w rv E a u→zA1 w (upd rv s v) (upd E s p) a u:=by
  intro a u _ ha
  refine ha.mono fun nv np hn hh=>?_
  by_cases hs:(zA3 a).1=s
  ·rw [hs,zAk,zAk] at hn
   have hu:p.unlock=p:=by cases p<;>first | rfl | simp [PV.heavy] at hp
   rw [hu] at hn
   have:=zEo hp hn
   rw [zFN hh] at this;cases this
  ·rw [zAg hs,zAg hs] at hn
   exact ⟨np,hn,zCc.refl hh⟩
 refine {h with rep:=?_,nodup:=?_,disj:=?_,own:=?_}
 ·intro t
  by_cases ht:t=s
  ·subst ht;rw [zAk,zAk,zAk];exact hr.mono zDe.refl hA (by simp)
  ·rw [zAg ht,zAg ht,zAg ht];exact (h.rep t).mono zDe.refl hA (fun _ _=>rfl)
 ·intro t
  by_cases ht:t=s
  ·subst ht;rw [zAk];simp
  ·rw [zAg ht];exact h.nodup t
 ·intro t t' hI b hb
  by_cases ht:t=s
  ·subst ht;rw [zAk] at hb;simp at hb
  ·rw [zAg ht] at hb
   by_cases gk:t'=s
   ·subst gk;rw [zAk];simp
   ·rw [zAg gk];exact h.disj t t' hI b hb
 ·intro t b hb
  by_cases ht:t=s
  ·subst ht;rw [zAk] at hb;simp at hb
  ·rw [zAg ht] at hb;exact h.own t b hb
end
end
def PV.dull:PV→Bool
 | .own .. | .box .. | .omap .. | .agg _ | .lock _=>false
 | _=>true
structure Tame (f:PV→PV):Prop where
 agg:∀ p,(f p).isAgg=p.isAgg
 dull:∀ p,p.isWay=true→(f p).dull=true
theorem zNt {p:PV} (h:p.dull=true):zAY p=none:=by cases p<;>first | rfl | cases h
theorem zNk {p:PV} (h:p.dull=true):p.heavy0=false:=by cases p<;>first | rfl | cases h
theorem zNq {p:PV} (h:p.dull=true):p.unlock=p:=by cases p<;>first | rfl | cases h
theorem zGU {f:PV→PV}:∀ (ps:List PV) (i:Nat),(zCI f ps)[i]? = (ps[i]?).map fun p=>p.mapW f
 | [],i=>by simp [zCI]
 | p::ps,0=>by simp [zCI]
 | p::ps,i+1=>by simp only [zCI,List.getElem?_cons_succ];exact zGU ps i
theorem zPo {f:PV→PV} (hf:Tame f) (q:PV) (c:Nat):(q.mapW f).cells[c]? = (q.cells[c]?).map fun p=>p.mapW f:=by
 cases hq:q.isAgg with
 | true =>
  cases q<;>simp [PV.isAgg] at hq
  simp only [PV.mapW,PV.cells];exact zGU _ _
 | false =>
  have h1:q.cells=[q]:=by cases q<;>first | rfl | simp [PV.isAgg] at hq
  have h2:(q.mapW f).isAgg=false:=by rw [zFS hf.agg];exact hq
  have h3:(q.mapW f).cells=[q.mapW f]:=by revert h2;cases q.mapW f<;>intro h2<;>first | rfl | simp [PV.isAgg] at h2
  rw [h1,h3];cases c<;>simp
theorem zF9 {f:PV→PV} {p:PV} (h:p.isWay=true):p.mapW f=f p:=by cases p<;>first | rfl | cases h
theorem zDp {f:PV→PV} (hf:Tame f) (p:PV):(p.mapW f).unlock=p.unlock.mapW f:=by
 cases hp:p.isWay with
 | true =>
  have h1:p.unlock=p:=by cases p<;>first | rfl | cases hp
  rw [h1,zF9 hp,zNq (hf.dull p hp)]
 | false=>cases p<;>first | rfl | cases hp
section
variable {w w':World} {Φ Φ':Nat→Prop} {rv rv':Nat→Value} {E E':Nat→PV}
theorem zVG {v:Value} {p q:PV} {i c:Nat}:kid w v (.box p) i c=kid w v (.box q) i c:=by
 cases v with
 | pointer a=>cases a<;>rfl
 | slice a _ _=>cases a<;>rfl
 | _=>rfl
theorem zUS {v:Value} {p q:List PV} {i c:Nat}:kid w v (.agg p) i c=kid w v (.agg q) i c:=by
 cases v with
 | pointer a=>cases a<;>rfl
 | slice a _ _=>cases a<;>rfl
 | _=>rfl
theorem zCQ {f:PV→PV} (hf:Tame f):∀ {pre:zAQ} {p:PV} {v nv:Value} {np':PV},zAO w v (p.mapW f) pre=some (nv,np')→np'.heavy0=true →
  ∃ np,zAO w v p pre=some (nv,np)∧zCc np np'
 | [],p,v,nv,np',h,hh=>by
  simp only [zAO,Option.some.injEq,Prod.mk.injEq] at h
  obtain ⟨rfl,rfl⟩:=h
  refine ⟨p,rfl,?_⟩
  cases hp:p.isWay with
  | true=>rw [zF9 hp,zNk (hf.dull p hp)] at hh;cases hh
  | false=>cases p<;>first | (cases hp;done) | (simp [PV.mapW,PV.heavy0] at hh;done) | simp [PV.mapW,zCc]
 | (i, c) :: rest,p,v,nv,np',h,hh=>by
  rw [zA0] at h
  cases hc:Eng.child (p.mapW f) i c with
  | none=>rw [hc] at h;cases h
  | some q' =>
   rw [hc] at h;simp only [Option.bind_some] at h
   cases hk:kid w v (p.mapW f) i c with
   | none=>rw [hk] at h;cases h
   | some u =>
    rw [hk] at h;simp only [Option.bind_some] at h
    have go:∀ q,Eng.child p i c=some q→kid w v p i c=some u→q'=q.mapW f→∃ np,zAO w v p ((i,c)::rest)=some (nv,np)∧zCc np np':=by
     intro q h1 h2 h3
     subst h3
     obtain ⟨np,hn,hl⟩:=zCQ hf h hh
     exact ⟨np,by rw [zA0,h1];simp only [Option.bind_some];rw [h2];exact hn,hl⟩
    cases hp:p.isWay with
    | true =>
     rw [zF9 hp] at hc
     simp [Eng.child,zNt (hf.dull p hp)] at hc
    | false =>
     cases p<;>first | (cases hp;done) | (simp [PV.mapW,Eng.child,zAY] at hc;done) | skip
     case own sz xs=>exact ⟨np',by rw [zA0];simp only [PV.mapW] at hc hk;rw [hc];simp only [Option.bind_some];rw [hk];exact h,zCc.refl hh⟩
     case box q0 =>
      simp only [PV.mapW,Eng.child,zAY,Option.bind_some] at hc
      cases i with
      | succ i=>simp at hc
      | zero =>
       simp only [List.getElem?_cons_zero,Option.bind_some] at hc
       rw [zPo hf] at hc
       cases hq:q0.cells[c]? with
       | none=>rw [hq] at hc;cases hc
       | some q =>
        rw [hq] at hc;simp only [Option.map_some,Option.some.injEq] at hc
        exact go q (by simp [Eng.child,zAY,hq]) (by rw [← hk,PV.mapW];exact zVG) hc.symm
     case agg cs =>
      simp only [PV.mapW,Eng.child,zAY,Option.bind_some] at hc
      cases i with
      | succ i=>simp at hc
      | zero =>
       simp only [List.getElem?_cons_zero,Option.bind_some,PV.cells] at hc
       rw [zGU] at hc
       cases hq:cs[c]? with
       | none=>rw [hq] at hc;cases hc
       | some q =>
        rw [hq] at hc;simp only [Option.map_some,Option.some.injEq] at hc
        exact go q (by simp [Eng.child,zAY,PV.cells,hq]) (by rw [← hk,PV.mapW];exact zUS) hc.symm
section
variable {w0:World} {U Φ0:Nat→Prop} {L L':Nat→List Nat}
theorem zCS {a:PV} {v:Value} (h:zA1 w rv E a v):(zA3 a).1<zAb:=by
 cases a<;>simp only [zA1] at h<;>first | exact h.1 | exact h.elim
theorem zCB (h:Conf w0 U Φ0 w Φ rv E L) {f:PV→PV} (hf:Tame f) {a:PV} {v:Value} (ha:zA1 w rv E a v) (hE:E' (zA3 a).1=(E (zA3 a).1).mapW f) (hv:rv' (zA3 a).1=rv (zA3 a).1)
  (hb:∀ b∈L (zA3 a).1,w'.heap[b]? = w.heap[b]?):zA1 w' rv' E' a v:=by
 refine ha.mono fun nv np hn hh=>?_
 rw [hE,hv,zDp hf] at hn
 obtain ⟨np0,kO,hl⟩:=zCQ hf hn hh
 rw [zFb (zBY (h.rep _)) hb] at kO
 exact ⟨np0,kO,hl⟩
theorem zLi {a:PV} {v:Value} (ha:zA1 w rv E a v) (hE:(E' (zA3 a).1).unlock.heavy=false):zA1 w' rv' E' a v:=by
 refine ha.mono fun nv np hn hh=>?_
 have:=zEo hE hn
 rw [zFN hh] at this;cases this
theorem Conf.step2 (h:Conf w0 U Φ0 w Φ rv E L) (σ:Nat→Option Nat) (f:PV→PV) (hf:Tame f)
  (hσ:∀ s s' t,σ s=some t→σ s'=some t→s=s')
  (hE:∀ s t,σ s=some t→E' s=(E t).mapW f∧rv' s=rv t∧L' s=L t)
  (hN:∀ s,σ s=none→Rep w' Φ (zA1 w' rv' E') (E' s) (rv' s) (L' s))
  (hA:∀ a v,a.isWay=true→zA1 w rv E a v→Rep w' Φ (zA1 w' rv' E') (f a) v [])
  (hd:∀ s,σ s=none→(L' s).Nodup) (wT:∀ s s',σ s=none→σ s'=none→s≠s'→∀ b∈L' s,b∉L' s')
  (ho:∀ s,σ s=none→∀ b∈L' s,(∃ t,b∈L t∧∀ s,σ s≠some t)∨(w.heap.size≤b∧b<w'.heap.size))
  (hw:w.heap.size≤w'.heap.size) (hk:∀ b,b<w.heap.size→(∀ t,b∈L t→∃ s,σ s=some t)→w'.heap[b]? = w.heap[b]?)
  (uK:w'.os=w.os∧w'.tape=w.tape∧w'.output=w.output):Conf w0 U Φ0 w' Φ rv' E' L':=by
 have gl:∀ s t,σ s=some t→∀ b∈L t,w'.heap[b]? = w.heap[b]?:=by
  intro s t hs b hb
  refine hk b (h.own t b hb).1 fun t' yI=>?_
  have:t'=t:=Classical.byContradiction fun hI=>h.disj t' t hI b yI hb
  exact ⟨s,this▸hs⟩
 have hΦ:zDe w w' Φ Φ:=fun b hb=>⟨hb,hk b (h.frz b hb).1 fun t kb=>absurd hb (h.own t b kb).2.1⟩
 have vh:∀ g,σ g=none→∀ b∈L' g,∀ t,b∈L t→∀ s,σ s≠some t:=by
  intro g hg b hb t kb s hs
  rcases ho g hg b hb with ⟨t',h1,h2⟩ | ⟨h1,h2⟩
  ·have:t'=t:=Classical.byContradiction fun hI=>h.disj t' t hI b h1 kb
   exact h2 s (this▸hs)
  ·have:=(h.own t b kb).1;omega
 refine ⟨?_,?_,?_,?_,?_,h.frz0,Nat.le_trans h.size hw,?_,uK.1.trans h.os,uK.2.1.trans h.tape,uK.2.2.trans h.output⟩
 ·intro s
  cases hs:σ s with
  | some t =>
   obtain ⟨h1,h2,h3⟩:=hE s t hs
   rw [h1,h2,h3]
   exact Rep.map hf.agg hΦ hA _ _ _ (gl s t hs) (h.rep t)
  | none=>exact hN s hs
 ·intro s
  cases hs:σ s with
  | some t=>rw [(hE s t hs).2.2];exact h.nodup t
  | none=>exact hd s hs
 ·intro s s' hI b hb yI
  cases hs:σ s with
  | some t =>
   rw [(hE s t hs).2.2] at hb
   cases yy:σ s' with
   | some t' =>
    rw [(hE s' t' yy).2.2] at yI
    have:t≠t':=fun e=>hI (hσ s s' t hs (e▸yy))
    exact h.disj t t' this b hb yI
   | none=>exact vh s' yy b yI t hb s hs
  | none =>
   cases yy:σ s' with
   | some t'=>rw [(hE s' t' yy).2.2] at yI;exact vh s hs b hb t' yI s' yy
   | none=>exact wT s s' hs yy hI b hb yI
 ·intro s b hb
  cases hs:σ s with
  | some t =>
   rw [(hE s t hs).2.2] at hb
   have:=h.own t b hb
   exact ⟨Nat.lt_of_lt_of_le this.1 hw,this.2⟩
  | none =>
   rcases ho s hs b hb with ⟨t,h1,_⟩ | ⟨h1,h2⟩
   ·have:=h.own t b h1
    exact ⟨Nat.lt_of_lt_of_le this.1 hw,this.2⟩
   ·exact ⟨h2,fun hp=>absurd (h.frz b hp).1 (by omega),.inr (Nat.le_trans h.size h1)⟩
 ·intro b hb
  have:=h.frz b hb
  exact ⟨Nat.lt_of_lt_of_le this.1 hw,this.2⟩
 ·intro b hb hu
  rw [hk b (Nat.lt_of_lt_of_le hb h.size) fun t kb=>?_]
  ·exact h.kept b hb hu
  ·rcases (h.own t b kb).2.2 with h1 | h1
   ·exact absurd h1 hu
   ·omega
theorem Conf.step (h:Conf w0 U Φ0 w Φ rv E L) (σ:Nat→Option Nat) (f:PV→PV) (g:Nat) (hf:Tame f)
  (hσ:∀ s s' t,σ s=some t→σ s'=some t→s=s')
  (hE:∀ s t,σ s=some t→E' s=(E t).mapW f∧rv' s=rv t∧L' s=L t)
  (hN:∀ s,σ s=none→Rep w' Φ (zA1 w' rv' E') (E' s) (rv' s) (L' s)∧(s≠g→L' s=[]))
  (hA:∀ a v,a.isWay=true→zA1 w rv E a v→Rep w' Φ (zA1 w' rv' E') (f a) v [])
  (hd:σ g=none→(L' g).Nodup) (ho:σ g=none→∀ b∈L' g,(∃ t,b∈L t∧∀ s,σ s≠some t)∨(w.heap.size≤b∧b<w'.heap.size))
  (hw:w.heap.size≤w'.heap.size) (hk:∀ b,b<w.heap.size→(∀ t,b∈L t→∃ s,σ s=some t)→w'.heap[b]? = w.heap[b]?)
  (uK:w'.os=w.os∧w'.tape=w.tape∧w'.output=w.output):Conf w0 U Φ0 w' Φ rv' E' L':=by
 refine h.step2 σ f hf hσ hE (fun s hs=>(hN s hs).1) hA (fun s hs=>?_) (fun s s' hs yy hI b hb yI=>?_) (fun s hs b hb=>?_) hw hk uK
 ·by_cases yc:s=g
  ·subst yc;exact hd hs
  ·rw [(hN s hs).2 yc];exact List.nodup_nil
 ·by_cases yc:s=g
  ·rw [(hN s' yy).2 (by rw [← yc];exact Ne.symm hI)] at yI;cases yI
  ·rw [(hN s hs).2 yc] at hb;cases hb
 ·by_cases yc:s=g
  ·subst yc;exact ho hs b hb
  ·rw [(hN s hs).2 yc] at hb;cases hb
theorem Conf.turn (h:Conf w0 U Φ0 w Φ rv E L) (σ:Nat→Option Nat) (f:PV→PV) (hf:Tame f)
  (hσ:∀ s s' t,σ s=some t→σ s'=some t→s=s')
  (hE:∀ s t,σ s=some t→E' s=(E t).mapW f∧rv' s=rv t∧L' s=L t)
  (hN:∀ s,σ s=none→E' s = .bad∧L' s=[])
  (hA:∀ a v,a.isWay=true→zA1 w rv E a v→Rep w Φ (zA1 w rv' E') (f a) v []):Conf w0 U Φ0 w Φ rv' E' L':=by
 refine h.step σ f 0 hf hσ hE (fun s hs=>?_) hA (fun hs=>?_) (fun hs=>?_) (Nat.le_refl _) (fun _ _ _=>rfl) ⟨rfl,rfl,rfl⟩
 ·obtain ⟨h1,h2⟩:=hN s hs
  rw [h1,h2];exact ⟨rfl,fun _=>rfl⟩
 ·rw [(hN _ hs).2];exact List.nodup_nil
 ·rw [(hN _ hs).2];simp
theorem zB9:Tame (fun x=>x):=⟨fun _=>rfl,fun p h=>by cases p<;>first | rfl | cases h⟩
theorem zDn {f:PV→PV} (h:∀ p,f p=p∨(p.isWay=true∧f p = .bad)):Tame f:=by
 refine ⟨fun p=>?_,fun p hp=>?_⟩
 ·rcases h p with h | ⟨h1,h2⟩
  ·rw [h]
  ·rw [h2];cases p<;>first | rfl | cases h1
 ·rcases h p with h | ⟨h1,h2⟩
  ·rw [h];cases p<;>first | rfl | cases hp
  ·rw [h2];rfl
theorem zGp (r:Nat) (pre:zAQ) (p:PV):lose r pre p=p∨(p.isWay=true∧lose r pre p = .bad):=by
 cases p<;>first | exact .inl rfl | skip
 all_goals
  simp only [Eng.lose,PV.isWay,true_and]
  cases (Nat.beq _ r&&_)<;>simp
theorem zPz {r:Nat} {p:PV} {v:Value} (h:p.isWay=true) (hl:lose r [] p=p) (ha:zA1 w rv E p v):(zA3 p).1≠r:=by
 intro hr
 cases p<;>first | cases h | skip
 case log=>exact False.elim ha
 all_goals
  simp only [zA3] at hr;subst hr
  simp [Eng.lose] at hl
theorem Conf.take (h:Conf w0 U Φ0 w Φ rv E L) {s g:Nat} (hs:s<zAb) (hg:zAb≤g):Conf w0 U Φ0 w Φ (upd rv g (rv s)) (upd (upd E s .bad) g (E s)) (upd (upd L s []) g (L s)):=by
 have yc:s≠g:=by omega
 refine h.turn (fun t=>if t=g then some s else if t=s then none else some t) (fun x=>x) zB9 ?_ ?_ ?_ ?_
 ·intro a b t ha hb
  split at ha<;>split at hb<;>simp_all<;>split at ha<;>simp_all
  all_goals (try split at hb)<;>simp_all
 ·intro a t ha
  split at ha
  ·rename_i e;cases ha;subst e;simp [zAk,zBa]
  ·rename_i e
   split at ha
   ·cases ha
   ·rename_i e2;cases ha;simp [zAg e,zAg e2,zBa]
 ·intro a ha
  split at ha
  ·cases ha
  ·rename_i e
   split at ha
   ·rename_i e2;subst e2;simp [zAg e,zAk]
   ·cases ha
 ·intro a v hw ha
  have hr:(zA3 a).1<zAb:=zCS ha
  refine zCR hw ?_
  by_cases jQ:(zA3 a).1=s
  ·refine zLi ha ?_
   rw [zAg (by omega),jQ,zAk];rfl
  ·refine zCB h zB9 ha ?_ ?_ (fun _ _=>rfl)
   ·rw [zAg (by omega),zAg jQ,zBa]
   ·rw [zAg (by omega)]
theorem Conf.lay (h:Conf w0 U Φ0 w Φ rv E L) {d g:Nat} (hd:d<zAb) (hg:zAb≤g):Conf w0 U Φ0 w Φ (upd rv d (rv g)) (upd (upd (fun s=>(E s).mapW (lose d [])) d ((E g).mapW (lose d []))) g .bad) (upd (upd L d (L g)) g []):=by
 have uj:d≠g:=by omega
 refine h.turn (fun t=>if t=g then none else if t=d then some g else some t) (lose d []) (zDn (zGp d [])) ?_ ?_ ?_ ?_
 ·intro a b t ha hb
  split at ha<;>split at hb<;>simp_all<;>split at ha<;>simp_all
  all_goals (try split at hb)<;>simp_all
 ·intro a t ha
  split at ha
  ·cases ha
  ·rename_i e
   split at ha
   ·rename_i e2;cases ha;subst e2;simp [zAg e,zAk]
   ·rename_i e2;cases ha;simp [zAg e,zAg e2]
 ·intro a ha
  split at ha
  ·rename_i e;subst e;simp [zAk]
  ·split at ha<;>cases ha
 ·intro a v hw ha
  have hr:(zA3 a).1<zAb:=zCS ha
  rcases zGp d [] a with hl | ⟨_,hl⟩
  ·rw [hl]
   have hI:=zPz hw hl ha
   refine zCR hw (zCB h (zDn (zGp d [])) ha ?_ ?_ (fun _ _=>rfl))
   ·rw [zAg (by omega),zAg hI]
   ·rw [zAg hI]
  ·rw [hl];rfl
theorem Conf.lose (h:Conf w0 U Φ0 w Φ rv E L) {f:PV→PV} (hf:∀ p,f p=p∨(p.isWay=true∧f p = .bad)):Conf w0 U Φ0 w Φ rv (fun s=>(E s).mapW f) L:=by
 refine h.turn some f (zDn hf) (fun a b t ha hb=>by cases ha;cases hb;rfl) (fun a t ha=>by cases ha;exact ⟨rfl,rfl,rfl⟩) (fun a ha=>by cases ha) fun a v hw ha=>?_
 rcases hf a with hl | ⟨_,hl⟩
 ·rw [hl];exact zCR hw (zCB h (zDn hf) ha rfl rfl (fun _ _=>rfl))
 ·rw [hl];rfl
theorem Conf.drop (h:Conf w0 U Φ0 w Φ rv E L) (D:Nat→Bool):Conf w0 U Φ0 w Φ rv (fun s=>if D s then .bad else E s) (fun s=>if D s then [] else L s):=by
 refine h.turn (fun s=>if D s then none else some s) (fun x=>x) zB9 ?_ ?_ ?_ ?_
 ·intro a b t ha hb;split at ha<;>split at hb<;>simp_all
 ·intro a t ha;split at ha
  ·cases ha
  ·rename_i e;cases ha;simp [e,zBa]
 ·intro a ha;split at ha
  ·rename_i e;simp [e]
  ·cases ha
 ·intro a v hw ha
  refine zCR hw ?_
  by_cases hd:D (zA3 a).1=true
  ·exact zLi ha (by simp [hd];rfl)
  ·exact zCB h zB9 ha (by simp [hd,zBa]) rfl (fun _ _=>rfl)
theorem Conf.hold (h:Conf w0 U Φ0 w Φ rv E L) {g:Nat} (hg:zAb≤g) {p:PV} {v:Value} (hr:Rep w Φ (zA1 w rv E) p v []) :
  Conf w0 U Φ0 w Φ (upd rv g v) (upd E g p) (upd L g []):=by
 have hA:∀ a u,a.isWay=true→zA1 w rv E a u→zA1 w (upd rv g v) (upd E g p) a u:=by
  intro a u _ ha
  have:=zCS ha
  exact zCB h zB9 ha (by rw [zAg (by omega),zBa]) (by rw [zAg (by omega)]) (fun _ _=>rfl)
 refine h.step (fun s=>if s=g then none else some s) (fun x=>x) g zB9 ?_ ?_ ?_ (fun a u hw ha=>zCR hw (hA a u hw ha)) (fun _=>?_) (fun _=>?_) (Nat.le_refl _) (fun _ _ _=>rfl) ⟨rfl,rfl,rfl⟩
 ·intro a b t ha hb;split at ha<;>split at hb<;>simp_all
 ·intro a t ha;split at ha
  ·cases ha
  ·rename_i e;cases ha;simp [zAg e,zBa]
 ·intro a ha;split at ha
  ·rename_i e;subst e
   rw [zAk,zAk,zAk]
   exact ⟨hr.mono zDe.refl hA (by simp),fun h=>absurd rfl h⟩
  ·cases ha
 ·rw [zAk];exact List.nodup_nil
 ·rw [zAk];simp
theorem Conf.make (h:Conf w0 U Φ0 w Φ rv E L) {w':World} (G:Nat→Bool) (hG:∀ s,G s=true→zAb≤s) {g:Nat} (hg:zAb≤g) {p:PV} {v:Value} {Lp:List Nat}
  (hr:∀ A:Al,(∀ a u,a.isWay=true→zA1 w rv E a u→A a u)→Rep w' Φ A p v Lp) (hd:Lp.Nodup)
  (ho:∀ b∈Lp,(∃ t,b∈L t∧G t=true)∨(w.heap.size≤b∧b<w'.heap.size))
  (hw:w.heap.size≤w'.heap.size) (hk:∀ b,b<w.heap.size→(∀ t,b∈L t→G t=false)→w'.heap[b]? = w.heap[b]?)
  (uK:w'.os=w.os∧w'.tape=w.tape∧w'.output=w.output) :
  Conf w0 U Φ0 w' Φ (upd rv g v) (upd (fun s=>if G s then .bad else E s) g p) (upd (fun s=>if G s then [] else L s) g Lp):=by
 have hA:∀ a u,a.isWay=true→zA1 w rv E a u→zA1 w' (upd rv g v) (upd (fun s=>if G s then .bad else E s) g p) a u:=by
  intro a u _ ha
  have yD:=zCS ha
  have hI:(zA3 a).1≠g:=by omega
  have hGn:G (zA3 a).1=false:=by
   cases hb:G (zA3 a).1 with
   | false=>rfl
   | true=>have:=hG _ hb;omega
  refine zCB h zB9 ha (by rw [zAg hI];simp [hGn,zBa]) (by rw [zAg hI]) fun b hb=>hk b (h.own _ b hb).1 fun t ht=>?_
  have:t=(zA3 a).1:=Classical.byContradiction fun hn=>h.disj t _ hn b ht hb
  rw [this];exact hGn
 refine h.step (fun s=>if s=g then none else if G s then none else some s) (fun x=>x) g zB9 ?_ ?_ ?_ (fun a u hw ha=>zCR hw (hA a u hw ha)) (fun _=>?_) (fun _=>?_) hw ?_ uK
 ·intro a b t ha hb
  split at ha<;>split at hb<;>simp_all
 ·intro a t ha
  split at ha
  ·cases ha
  ·rename_i e
   split at ha
   ·cases ha
   ·rename_i e2;cases ha;simp [zAg e,zBa,e2]
 ·intro a ha
  split at ha
  ·rename_i e;subst e
   rw [zAk,zAk,zAk]
   exact ⟨hr _ hA,fun h=>absurd rfl h⟩
  ·rename_i e
   split at ha
   ·rename_i e2
    rw [zAg e,zAg e,zAg e]
    exact ⟨by simp [e2,Rep],fun _=>by simp [e2]⟩
   ·cases ha
 ·rw [zAk];exact hd
 ·rw [zAk]
  intro b hb
  rcases ho b hb with ⟨t,h1,h2⟩ | h1
  ·refine .inl ⟨t,h1,fun s hs=>?_⟩
   split at hs
   ·cases hs
   ·split at hs
    ·cases hs
    ·rename_i e2;cases hs;exact e2 h2
  ·exact .inr h1
 ·intro b hb hc
  refine hk b hb fun t ht=>?_
  obtain ⟨s,hs⟩:=hc t ht
  split at hs
  ·cases hs
  ·split at hs
   ·cases hs
   ·rename_i e2;cases hs;simpa using e2
theorem zCc.trans {p q r:PV} (h1:zCc p q) (h2:zCc q r):zCc p r:=by
 cases p<;>cases q<;>simp only [zCc] at h1<;>cases r<;>simp_all [zCc]
theorem zMA {A A':Al} (hA:∀ a v,a.isWay=true→A a v→A' a v):∀ {pre:zAQ} {p:PV},∀ a v,a.isWay=true→zIe A p pre a v→zIe A' p pre a v
 | [],p,a,v,hw,h=>hA a v hw h
 | (i,c)::rest,p,a,v,hw,h=>by
  simp only [zIe] at h ⊢
  cases hc:Eng.child p i c with
  | none=>rw [hc] at h;exact h.elim
  | some q =>
   rw [hc] at h
   exact zMA (zJ7 hA) a v hw h
def stays (f:PV→PV) (A:Al):Al:=fun a v=>A a v∧f a=a
theorem Conf.stays (h:Conf w0 U Φ0 w Φ rv E L) {f:PV→PV} (hf:∀ p,f p=p∨(p.isWay=true∧f p = .bad)) (s:Nat):Rep w Φ (stays f (zA1 w rv E)) ((E s).mapW f) (rv s) (L s):=by
 refine Rep.map (zDn hf).agg zDe.refl (fun a v hw ha=>?_) _ _ _ (fun _ _=>rfl) (h.rep s)
 rcases hf a with hl | ⟨_,hl⟩
 ·rw [hl];exact zCR hw ⟨ha,hl⟩
 ·rw [hl];rfl
theorem Conf.mod (h:Conf w0 U Φ0 w Φ rv E L) {r:Nat} (hr:r<zAb) {f:PV→PV} (hf:∀ p,f p=p∨(p.isWay=true∧f p = .bad)) {pre:zAQ} {q:PV}
  (jT:((E r).mapW f).unlock=(E r).mapW f) (hn:zAy ((E r).mapW f) pre=some q) :
  ∃ nv Li,zAO w (rv r) ((E r).mapW f) pre=some (nv,q)∧Rep w Φ (zIe (Eng.stays f (zA1 w rv E)) ((E r).mapW f) pre) q nv Li∧Li.Nodup∧(∀ b∈Li,b∈L r) ∧
   ∀ (G:Nat→Bool) (w':World) (q' root':PV) (Li':List Nat),(∀ s,G s=true→zAb≤s)→(pre≠[]→q'.isAgg=q.isAgg)→zAt (fun _=>some q') ((E r).mapW f) pre=some root'→root'.unlock=root' →
    (∀ A:Al,(∀ a u,a.isWay=true→Eng.stays f (zA1 w rv E) a u→A a u)→Rep w' Φ (zIe A ((E r).mapW f) pre) q' nv Li')→Li'.Nodup →
    (∀ b∈Li',b∈Li∨(∃ t,b∈L t∧G t=true)∨(w.heap.size≤b∧b<w'.heap.size))→w.heap.size≤w'.heap.size →
    (∀ b,b<w.heap.size→b∉Li→(∀ t,b∈L t→G t=false)→w'.heap[b]? = w.heap[b]?) →
    (∀ rest nv2 np2,zAO w' nv q' rest=some (nv2,np2)→np2.heavy0=true→(∀ a,a.isWay=true→zA3 a=(r,pre++rest)→f a≠a)∨∃ np0,zAO w nv q rest=some (nv2,np0)∧zCc np0 np2) →
    (w'.os=w.os∧w'.tape=w.tape∧w'.output=w.output) →
    ∃ L',(∀ s,s≠r→L' s=if G s then [] else L s)∧Conf w0 U Φ0 w' Φ rv (fun s=>if s=r then root' else if G s then .bad else (E s).mapW f) L':=by
 have hs:=h.stays hf r
 obtain ⟨nv,La,Li,Lb,vF,hL,hX,vi,uR⟩:=Rep.zip pre hs hn
 have yU:=h.nodup r
 rw [hL] at yU
 have hnd1:∀ b∈La++Lb,b∉Li:=by
  intro b hb uS
  simp only [List.nodup_append] at yU
  rcases List.mem_append.1 hb with hb | hb
  ·exact yU.1.2.2 b hb b uS rfl
  ·exact yU.2.2 b (by simp [uS]) b hb rfl
 refine ⟨nv,Li,vF,hX,?_,fun b hb=>by rw [hL];simp [hb],?_⟩
 ·simp only [List.nodup_append] at yU;exact yU.1.2.1
 intro G w' q' root' Li' hG yr hm yH hR hd ho hw hk vG uK
 have hkL:∀ t,G t=false→∀ b∈L t,b∉Li→w'.heap[b]? = w.heap[b]?:=by
  intro t ht b hb uS
  refine hk b (h.own t b hb).1 uS fun t' gk=>?_
  have:t'=t:=Classical.byContradiction fun hI=>h.disj t' t hI b gk hb
  rw [this];exact ht
 have hGr:G r=false:=by
  cases hb:G r with
  | false=>rfl
  | true=>have:=hG _ hb;omega
 have hbLL:∀ b∈La++Lb,w'.heap[b]? = w.heap[b]?:=by
  intro b hb
  exact hkL r hGr b (by rw [hL];simp at hb ⊢;rcases hb with h | h<;>simp [h]) (hnd1 b hb)
 have hLiL:∀ t,t≠r→∀ b∈L t,b∉Li:=by
  intro t hI b hb uS
  exact h.disj t r hI b hb (by rw [hL];simp [uS])
 have hA : ∀ a u,a.isWay=true→zA1 w rv E a u→f a=a→zA1 w' rv (fun s=>if s=r then root' else if G s then .bad else (E s).mapW f) a u:=by
  intro a u uk ha hfa
  have yD:=zCS ha
  by_cases uT:(zA3 a).1=r
  ·refine ha.mono fun nv2 np2 ja hh=>?_
   simp only [uT,if_true] at ja ⊢
   rw [yH] at ja
   have back:∀ np0,zAO w (rv r) ((E r).mapW f) (zA3 a).2=some (nv2,np0)→zCc np0 np2→∃ np0,zAO w (rv r) (E r).unlock (zA3 a).2=some (nv2,np0)∧zCc np0 np2:=by
    intro np0 h1 h2
    rw [← jT,zDp (zDn hf)] at h1
    obtain ⟨np1,h3,h4⟩:=zCQ (zDn hf) h1 (zDG h2)
    exact ⟨np1,h3,h4.trans h2⟩
   rcases uR w' q' root' hbLL yr hm _ nv2 np2 ja hh with ⟨rest,h1,h2⟩ | ⟨np0,h1,h2⟩
   ·rcases vG rest nv2 np2 h2 hh with h3 | ⟨np0,h3,h4⟩
    ·exact absurd hfa (h3 a uk (Prod.ext uT h1))
    ·refine back np0 ?_ h4
     rw [h1,zC9,vF];exact h3
   ·exact back np0 h1 h2
  ·have hGa:G (zA3 a).1=false:=by
    cases hb:G (zA3 a).1 with
    | false=>rfl
    | true=>have:=hG _ hb;omega
   exact zCB h (zDn hf) ha (by simp [uT,hGa]) rfl fun b hb=>hkL _ hGa b hb (hLiL _ uT b hb)
 have hA':∀ a u,a.isWay=true→zA1 w rv E a u→Rep w' Φ (zA1 w' rv (fun s=>if s=r then root' else if G s then .bad else (E s).mapW f)) (f a) u []:=by
  intro a u uk ha
  rcases hf a with hl | ⟨_,hl⟩
  ·rw [hl];exact zCR uk (hA a u uk ha hl)
  ·rw [hl];rfl
 have hΦ:zDe w w' Φ Φ:=fun b hb=>⟨hb,hk b (h.frz b hb).1 (fun uS=>(h.own r b (by rw [hL];simp [uS])).2.1 hb) fun t kb=>absurd hb (h.own t b kb).2.1⟩
 refine ⟨fun s=>if s=r then La++Li'++Lb else if G s then [] else L s,fun s y1=>by simp [y1],?_⟩
 refine h.step (fun s=>if s=r then none else if G s then none else some s) f r (zDn hf) ?_ ?_ ?_ hA' (fun _=>?_) (fun _=>?_) hw ?_ uK
 ·intro a b t ha hb
  split at ha<;>split at hb<;>simp_all
 ·intro a t ha
  split at ha
  ·cases ha
  ·rename_i e
   split at ha
   ·cases ha
   ·rename_i e2;cases ha;simp [e,e2]
 ·intro a ha
  by_cases e:a=r
  ·subst e
   simp only [if_true]
   exact ⟨vi w' Φ _ q' Li' root' (fun a u uk ha=>hA a u uk ha.1 ha.2) hΦ hbLL yr (hR _ fun a u uk ha=>hA a u uk ha.1 ha.2) hm,fun h=>absurd rfl h⟩
  ·simp only [e,if_false] at ha ⊢
   split at ha
   ·rename_i e2;exact ⟨by simp [e2,Rep],fun _=>by simp [e2]⟩
   ·cases ha
 ·simp only [if_true]
  simp only [List.nodup_append] at yU ⊢
  have hx:∀ b∈Li',b∈La++Lb→False:=by
   intro b hb j6
   have wU:b∈L r:=by rw [hL];simp at j6 ⊢;rcases j6 with h | h<;>simp [h]
   rcases ho b hb with h1 | ⟨t,h1,h2⟩ | h1
   ·exact hnd1 b j6 h1
   ·have:t≠r:=fun e=>by rw [e,hGr] at h2;cases h2
    exact h.disj t r this b h1 wU
   ·have:=(h.own r b wU).1;omega
  refine ⟨⟨yU.1.1,hd,fun a ha b hb e=>hx b hb (by subst e;simp [ha])⟩,yU.2.1,fun a ha b hb e=>?_⟩
  subst e
  rcases List.mem_append.1 ha with ha | ha
  ·exact yU.2.2 a (by simp [ha]) a hb rfl
  ·exact hx a ha (by simp [hb])
 ·simp only [if_true]
  intro b hb
  have yZ:∀ t,t=r∨G t=true→∀ s,(if s=r then none else if G s then none else some s)≠some t:=by
   intro t ht s hs
   split at hs
   ·cases hs
   ·rename_i e
    split at hs
    ·cases hs
    ·rename_i e2;cases hs
     rcases ht with h | h
     ·exact e h
     ·exact e2 h
  rcases List.mem_append.1 hb with hb | hb
  ·rcases List.mem_append.1 hb with hb | hb
   ·exact .inl ⟨r,by rw [hL];simp [hb],yZ r (.inl rfl)⟩
   ·rcases ho b hb with h1 | ⟨t,h1,h2⟩ | h1
    ·exact .inl ⟨r,by rw [hL];simp [h1],yZ r (.inl rfl)⟩
    ·exact .inl ⟨t,h1,yZ t (.inr h2)⟩
    ·exact .inr h1
  ·exact .inl ⟨r,by rw [hL];simp [hb],yZ r (.inl rfl)⟩
 ·intro b hb hc
  have kH:b∉L r:=by
   intro wU
   obtain ⟨s,hs⟩:=hc r wU
   split at hs
   ·cases hs
   ·rename_i e
    split at hs
    ·cases hs
    ·cases hs;exact e rfl
  refine hk b hb (fun uS=>kH (by rw [hL];simp [uS])) fun t ht=>?_
  obtain ⟨s,hs⟩:=hc t ht
  split at hs
  ·cases hs
  ·split at hs
   ·cases hs
   ·rename_i e2;cases hs;simpa using e2
theorem Conf.takeNode (h:Conf w0 U Φ0 w Φ rv E L) {r g:Nat} (hr:r<zAb) (hg:zAb≤g) {pre:zAQ} {q root':PV} (jT:(E r).unlock=E r) (hn:zAy (E r) pre=some q) (yr:q.isAgg=false)
  (hm:zAt (fun _=>some .bad) (E r) pre=some root') (yH:root'.unlock=root') :
  ∃ nv Li,zAO w (rv r) (E r) pre=some (nv,q)∧Rep w Φ (zA1 w rv E) q nv Li∧Li.Nodup∧(∀ b∈Li,b∈L r)∧∀ (p':PV) (v':Value) (Lg:List Nat),Rep w Φ (zA1 w rv E) p' v' Lg→Lg.Nodup→(∀ b∈Lg,b∈Li∨b∈L g) →
   ∃ L',Conf w0 U Φ0 w Φ (upd rv g v') (upd (upd E r root') g p') L'∧∀ s,s≠r→s≠g→L' s=L s:=by
 have j7:r≠g:=by omega
 obtain ⟨nv,La,Li,Lb,vF,hL,hX,vi,uR⟩:=Rep.zip pre (h.rep r) hn
 have yU:=h.nodup r
 rw [hL] at yU
 simp only [List.nodup_append] at yU
 have y8:∀ b,b∈La++Lb→b∈L r:=fun b hb=>by rw [hL];simp at hb ⊢;rcases hb with h | h<;>simp [h]
 have qK:∀ b∈Li,b∈L r:=fun b hb=>by rw [hL];simp [hb]
 have vH:∀ b∈Li,b∉La++Lb:=by
  intro b hb j6
  rcases List.mem_append.1 j6 with h2 | h2
  ·exact yU.1.2.2 b h2 b hb rfl
  ·exact yU.2.2 b (by simp [hb]) b h2 rfl
 refine ⟨nv,Li,vF,hX.mono zDe.refl (fun _ _ _ h=>zEx h) (fun _ _=>rfl),yU.1.2.1,qK,fun p' v' Lg jk hLg hLgm=>?_⟩
 have qL:∀ b∈Lg,b∉La++Lb:=by
  intro b hb j6
  rcases hLgm b hb with h1 | h1
  ·exact vH b h1 j6
  ·exact h.disj r g j7 b (y8 b j6) h1
 have hA:∀ a u,a.isWay=true→zA1 w rv E a u→zA1 w (upd rv g v') (upd (upd E r root') g p') a u:=by
  intro a u uk ha
  have yD:=zCS ha
  by_cases uT:(zA3 a).1=r
  ·refine ha.mono fun nv2 np2 ja hh=>?_
   rw [uT] at ja ⊢
   rw [zAg j7,zAg j7,zAk,yH] at ja
   rcases uR w .bad root' (fun _ _=>rfl) (fun _=>yr.symm) hm _ nv2 np2 ja hh with ⟨rest,h1,h2⟩ | ⟨np0,h1,h2⟩
   ·cases rest with
    | nil=>simp only [zAO,Option.some.injEq,Prod.mk.injEq] at h2;rw [← h2.2] at hh;cases hh
    | cons x rest=>obtain ⟨i,c⟩:=x;rw [zA0] at h2;simp [Eng.child,zAY] at h2
   ·rw [jT];exact ⟨np0,h1,h2⟩
  ·exact zCB h zB9 ha (by rw [zAg (by omega),zAg uT,zBa]) (by rw [zAg (by omega)]) (fun _ _=>rfl)
 refine ⟨upd (upd L r (La++Lb)) g Lg,?_,fun s h1 h2=>by rw [zAg h2,zAg h1]⟩
 refine h.step2 (fun s=>if s=r then none else if s=g then none else some s) (fun x=>x) zB9 ?_ ?_ ?_ (fun a u uk ha=>zCR uk (hA a u uk ha)) ?_ ?_ ?_ (Nat.le_refl _) (fun _ _ _=>rfl) ⟨rfl,rfl,rfl⟩
 ·intro a b t ha hb
  split at ha<;>split at hb<;>simp_all
 ·intro a t ha
  split at ha
  ·cases ha
  ·rename_i e1
   split at ha
   ·cases ha
   ·rename_i e2;cases ha;simp [zAg e1,zAg e2,zBa]
 ·intro a ha
  by_cases e1:a=r
  ·subst e1
   rw [zAg j7,zAg j7,zAg j7,zAk,zAk]
   have:=vi w Φ (zA1 w (upd rv g v') (upd (upd E a root') g p')) .bad [] root' hA zDe.refl (fun _ _=>rfl) (fun _=>yr.symm) rfl hm
   simpa using this
  ·have e2:a=g:=by
    rw [if_neg e1] at ha
    by_cases e2:a=g
    ·exact e2
    ·rw [if_neg e2] at ha;cases ha
   subst e2
   rw [zAk,zAk,zAk]
   exact jk.mono zDe.refl (fun a u hw h=>hA a u hw h) (fun _ _=>rfl)
 ·intro a ha
  by_cases e1:a=r
  ·subst e1
   rw [zAg j7,zAk,List.nodup_append]
   exact ⟨yU.1.1,yU.2.1,fun x hx y hy e=>yU.2.2 x (by simp [hx]) y hy e⟩
  ·rw [if_neg e1] at ha
   by_cases e2:a=g
   ·subst e2;rw [zAk];exact hLg
   ·rw [if_neg e2] at ha;cases ha
 ·intro s s' hs yy hI b hb yI
  have uU:s=r∨s=g:=by by_cases e1:s=r;exact .inl e1;rw [if_neg e1] at hs;by_cases e2:s=g;exact .inr e2;rw [if_neg e2] at hs;cases hs
  have hs2':s'=r∨s'=g:=by by_cases e1:s'=r;exact .inl e1;rw [if_neg e1] at yy;by_cases e2:s'=g;exact .inr e2;rw [if_neg e2] at yy;cases yy
  rcases uU with rfl | rfl<;>rcases hs2' with rfl | rfl
  ·exact hI rfl
  ·rw [zAg j7,zAk] at hb;rw [zAk] at yI;exact qL b yI hb
  ·rw [zAk] at hb;rw [zAg j7,zAk] at yI;exact qL b hb yI
  ·exact hI rfl
 ·intro s hs b hb
  have uU:s=r∨s=g:=by by_cases e1:s=r;exact .inl e1;rw [if_neg e1] at hs;by_cases e2:s=g;exact .inr e2;rw [if_neg e2] at hs;cases hs
  have kH:∀ t,t=r∨t=g→∀ x,(if x=r then none else if x=g then none else some x)≠some t:=by
   intro t ht x hx
   split at hx
   ·cases hx
   ·rename_i e1
    split at hx
    ·cases hx
    ·rename_i e2;cases hx;rcases ht with h | h<;>contradiction
  rcases uU with rfl | rfl
  ·rw [zAg j7,zAk] at hb;exact .inl ⟨s,y8 b hb,kH s (.inl rfl)⟩
  ·rw [zAk] at hb
   rcases hLgm b hb with h1 | h1
   ·exact .inl ⟨r,qK b h1,kH r (.inl rfl)⟩
   ·exact .inl ⟨s,h1,kH s (.inr rfl)⟩
end
end
end Go.Eng
namespace Go.Eng
open Go
theorem zBf:∀ ps:List PV,(zAD ps).length=ps.length
 | []=>rfl
 | p::ps=>by simp [zAD,zBf ps]
theorem zJm:∀ (ps:List PV) (i:Nat),(zAD ps)[i]? = (ps[i]?).map zAR
 | [],i=>by simp [zAD]
 | p::ps,0=>by simp [zAD]
 | p::ps,i+1=>by simp only [zAD,List.getElem?_cons_succ];exact zJm ps i
theorem zCs:∀ ps:List PV,zAD ps=ps.map zAR
 | []=>rfl
 | p::ps=>by simp [zAD,zCs ps]
theorem zC0 (p:PV):(zAR p).isAgg=p.isAgg:=by cases p<;>rfl
theorem zLI (p:PV):(zAR p).cells=zAD p.cells:=by cases p<;>rfl
theorem zCX (p:PV):(zAR p).cells.length=p.cells.length:=by rw [zLI,zBf]
theorem zHi (ps:List PV):(zAD ps).map PV.isAgg=ps.map PV.isAgg:=by
 rw [zCs,List.map_map];exact List.map_congr_left fun p _=>zC0 p
section
variable {w:World} {Φ Φ':Nat→Prop}
mutual
theorem zD3 {A:Al} (hΦ:∀ b,Φ b→Φ' b):∀ (p:PV) (v:Value) (L:List Nat),(∀ b∈L,Φ' b)→Rep w Φ A p v L→Rep w Φ' A (zAR p) v []
 | .own sz xs,v,L,hL,h=>by
  obtain ⟨h1,h2,h3⟩ | ⟨a,n,c,us,L',rfl,h1,h2,h3,h4,h5,h6,h7,h8,h9⟩:=h
  ·subst h1;exact ⟨rfl,.inl ⟨rfl,none,0,h3,fun _=>rfl⟩⟩
  ·refine ⟨rfl,.inr ⟨a,n,c,us,sz,by rw [zBf];exact h1,h2,by rw [zBf];exact h3,hL _ (by simp),h4.any,?_,⟨h7.1,by rw [zHi];exact h7.2⟩,by rw [zBf];exact h8,?_⟩⟩
   ·intro x hx
    rw [zCs] at hx
    obtain ⟨y,hy,rfl⟩:=List.mem_map.1 hx
    rw [zCX];exact h6 y hy
   ·exact zDl hΦ xs us L' (fun b hb=>hL b (by simp [hb])) h9
 | .box q,v,L,hL,h=>by
  obtain ⟨a,c,u,L',rfl,h1,h2,h4,h5,h6,h7⟩:=h
  exact ⟨rfl,a,c,u,h1,h2,hL _ (by simp),h4.any,by rw [zCX];exact h5,by rw [zCX,zC0];exact h6,zD3 hΦ q u L' (fun b hb=>hL b (by simp [hb])) h7⟩
 | .omap es,v,L,hL,h=>by
  obtain ⟨b,ents,rfl,h1,h3,h4⟩:=h
  exact ⟨rfl,b,ents,h1,hL _ (by simp),h3,zDQ.same (fun b hb=>⟨hΦ b hb,rfl⟩) es _ _ h4⟩
 | .agg cs,v,L,hL,h=>by
  obtain ⟨vs,rfl,h⟩:=h
  exact ⟨vs,rfl,zDl hΦ cs _ L hL h⟩
 | .tup _,_,_,_,_=>rfl
 | .lock _,_,_,_,_=>rfl
 | .bad,_,_,_,_=>rfl
 | .und,_,_,_,h=>⟨h.1,rfl⟩
 | .int ..,_,_,_,h=>⟨h.1,rfl⟩
 | .bool _,_,_,_,h=>⟨h.1,rfl⟩
 | .nilp,_,_,_,h=>⟨h.1,rfl⟩
 | .nilf,_,_,_,h=>⟨h.1,rfl⟩
 | .nilm,_,_,_,h=>⟨h.1,rfl⟩
 | .nn,_,_,_,h=>⟨rfl,h.2⟩
 | .nils _,_,_,_,h=>⟨h.1,rfl⟩
 | .sl xs,v,L,_,h=>by have h0:=h.1;subst h0;exact h.mono (fun b hb=>⟨hΦ b hb,rfl⟩) (fun _ _ _ h=>h) (fun _ _=>rfl)
 | .ref q,v,L,_,h=>by have h0:=h.1;subst h0;exact h.mono (fun b hb=>⟨hΦ b hb,rfl⟩) (fun _ _ _ h=>h) (fun _ _=>rfl)
 | .map es,v,L,_,h=>by have h0:=h.1;subst h0;exact h.mono (fun b hb=>⟨hΦ b hb,rfl⟩) (fun _ _ _ h=>h) (fun _ _=>rfl)
 | .func _ _ _,v,L,_,h=>by have h0:=h.1;subst h0;exact h.mono (fun b hb=>⟨hΦ b hb,rfl⟩) (fun _ _ _ h=>h) (fun _ _=>rfl)
 | .addr ..,_,_,_,h=>⟨rfl,h.2⟩
 | .bor ..,_,_,_,h=>⟨rfl,h.2⟩
 | .bsl ..,_,_,_,h=>⟨rfl,h.2⟩
 | .bmap ..,_,_,_,h=>⟨rfl,h.2⟩
 | .yld _,_,_,_,h=>⟨rfl,h.2⟩
 | .log ..,_,_,_,h=>⟨rfl,h.2⟩
theorem zDl {A:Al} (hΦ:∀ b,Φ b→Φ' b):∀ (ps:List PV) (vs:List Value) (L:List Nat),(∀ b∈L,Φ' b)→zAX w Φ A ps vs L→zAX w Φ' A (zAD ps) vs []
 | [],_,_,_,h=>⟨h.1,rfl⟩
 | p::ps,vs,L,hL,h=>by
  obtain ⟨v,vs',L1,L2,rfl,rfl,h1,h2⟩:=h
  exact ⟨v,vs',[],[],rfl,rfl,zD3 hΦ p v L1 (fun b hb=>hL b (by simp [hb])) h1,zDl hΦ ps vs' L2 (fun b hb=>hL b (by simp [hb])) h2⟩
end
theorem zHK:∀ {pre:zAQ} {p:PV} {v nv:Value} {np:PV},zAO w v (zAR p) pre=some (nv,np)→np.heavy0=false
 | [],p,v,nv,np,h=>by
  simp only [zAO,Option.some.injEq,Prod.mk.injEq] at h
  obtain ⟨_,rfl⟩:=h
  cases p<;>rfl
 | (i, c)::rest,p,v,nv,np,h=>by
  rw [zA0] at h
  cases hc:Eng.child (zAR p) i c with
  | none=>rw [hc] at h;cases h
  | some q =>
   rw [hc] at h;simp only [Option.bind_some] at h
   cases hk:kid w v (zAR p) i c with
   | none=>rw [hk] at h;cases h
   | some u =>
    rw [hk] at h;simp only [Option.bind_some] at h
    cases p<;>first | (simp [Eng.child,zAY,zAR] at hc;done) | skip
    rename_i cs
    cases i with
    | succ i=>simp [Eng.child,zAY,zAR] at hc
    | zero =>
     simp only [Eng.child,zAY,zAR,Option.bind_some,List.getElem?_cons_zero,PV.cells] at hc
     rw [zJm] at hc
     cases hq:cs[c]? with
     | none=>rw [hq] at hc;cases hc
     | some q0=>rw [hq] at hc;simp only [Option.map_some,Option.some.injEq] at hc;subst hc;exact zHK h
end
theorem zGD {c:Array Value} {o n:Nat} {l:List Value} (hl:l.length=n) (h:∀ k u,l[k]? = some u→c[o+k]? = some u):seg c o n=l:=by
 apply List.ext_getElem?
 intro k
 simp only [seg,List.getElem?_take,List.getElem?_drop]
 by_cases hk:k<n
 ·rw [if_pos hk]
  have : ∃ u, l[k]? = some u := ⟨l[k]'(by omega), by simp [hl, hk]⟩
  obtain ⟨u,hu⟩:=this
  rw [hu,Array.getElem?_toList];exact h k u hu
 ·rw [if_neg hk,List.getElem?_eq_none (by omega)]
section
variable {w:World} {Φ:Nat→Prop}
theorem zLf {A:Al} {np:PV} {nv:Value} {Li:List Nat} (h:Rep w Φ A np nv Li) {xs:List PV} (hx:zA7 np=some xs) {i:Nat} {x:PV} (hi:xs[i]? = some x) :
  ∃ ux row ad Lx,ad.block∈Li∧ad.spot=none∧zEB w ad.block row∧(∀ b∈Lx,b∈Li)∧(∀ c,zA2 nv np i c=some (zAr ad c)) ∧
   (∀ c n,c+n≤x.cells.length→seg row (ad.off+c) n=(ux.cells.toList.drop c).take n)∧zCa ux=x.isAgg∧ux.cells.size=x.cells.length∧Rep w Φ (zGF A np) x ux Lx:=by
 cases np<;>simp only [zA7] at hx<;>try cases hx
 case own sz =>
  obtain ⟨h1,h2,h3⟩ | ⟨a,n,r,us,L',rfl,h1,h2,h3,h4,h5,h6,⟨h7,uJ⟩,h8,h9⟩:=h
  ·subst h1;simp at hi
  ·obtain ⟨ux,La,Lx,Lb,hu,rfl,hr,_,_⟩:=h9.split hi
   have hg:zCa ux=x.isAgg:=by
    have h1:(us.map zCa)[i]? = some (zCa ux):=by simp [hu]
    have h2:(xs.map PV.isAgg)[i]? = some x.isAgg:=by simp [hi]
    rw [uJ] at h1;rw [h1] at h2;simpa using h2
   have yF:ux.cells.size=x.cells.length:=by rw [h7 ux (List.mem_of_getElem? hu),h6 x (List.mem_of_getElem? hi)]
   subst h1
   refine ⟨ux,r,zAr a (i*sz),Lx,by simp [zAr],rfl,h4,fun b hb=>by simp [hb],fun c=>by simp [zA2,zAr,Nat.add_assoc],?_,hg,yF,hr⟩
   intro c m hcm
   refine zGD (by simp;omega) fun k u hk=>?_
   simp only [List.getElem?_take,List.getElem?_drop] at hk
   split at hk
   ·have hf:=zDY h7 hu hk
    rw [← h8] at hf
    have:=zC7 hf
    simp only [zAr]
    rw [show a.off+i*sz+c+k=a.off+(i*sz+(c+k)) by omega];exact this
   ·cases hk
 case box q0 =>
  obtain ⟨a,r,u0,L',rfl,h1,h2,h4,h5,⟨h6,ug⟩,h7⟩:=h
  have ji:i=0:=by
   cases i with
   | zero=>rfl
   | succ i=>simp at hi
  subst ji;simp at hi;subst hi
  subst h1
  refine ⟨u0,r,a,L',by simp,h2,h4,fun b hb=>by simp [hb],fun c=>rfl,?_,ug,h6,h7⟩
  intro c m hcm
  refine zGD (by simp;omega) fun k u hk=>?_
  simp only [List.getElem?_take,List.getElem?_drop] at hk
  split at hk
  ·have:=zC7 (c:=r) (o:=a.off) (n:=q0.cells.length) (k:=c+k) (u:=u) (by rw [h5];exact hk)
   rw [Nat.add_assoc];exact this
  ·cases hk
end
theorem zCk (u:Value) (us:List Value):flat (u::us)=u.cells.toList++flat us:=rfl
theorem zJJ {sz:Nat}:∀ {us:List Value},(∀ u∈us,u.cells.size=sz)→∀ lo,(flat us).drop (lo*sz)=flat (us.drop lo)
 | [],_,lo=>by simp [flat]
 | u::us,h,0=>by simp
 | u::us,h,lo+1=>by
  have hu:u.cells.toList.length=sz:=by simpa using h u (by simp)
  rw [zCk,Nat.succ_mul,Nat.add_comm,← List.drop_drop,List.drop_left' hu]
  exact zJJ (fun u hu=>h u (by simp [hu])) lo
theorem zIJ {sz:Nat}:∀ {us:List Value},(∀ u∈us,u.cells.size=sz)→∀ n,(flat us).take (n*sz)=flat (us.take n)
 | [],_,n=>by simp [flat]
 | u::us,h,0=>by simp [flat]
 | u::us,h,n+1=>by
  have hu:u.cells.toList.length=sz:=by simpa using h u (by simp)
  rw [List.take_succ_cons,zCk,zCk,Nat.succ_mul,Nat.add_comm,List.take_append,List.take_of_length_le (by omega),hu]
  congr 1
  rw [show sz+n*sz-sz=n*sz by omega]
  exact zIJ (fun u hu=>h u (by simp [hu])) n
theorem zBg {sz:Nat}:∀ {us:List Value},(∀ u∈us,u.cells.size=sz)→(flat us).length=us.length*sz
 | [],_=>by simp [flat]
 | u::us,h=>by
  have hu:u.cells.toList.length=sz:=by simpa using h u (by simp)
  rw [zCk,List.length_append,hu,zBg (fun u hu=>h u (by simp [hu])),List.length_cons,Nat.succ_mul,Nat.add_comm]
theorem zIr {c:Array Value} {o sz m:Nat} {us:List Value} (hs:∀ u∈us,u.cells.size=sz) (hm:us.length=m) (h:seg c o (m*sz)=flat us) {lo n:Nat} (hn:lo+n≤m) :
  seg c (o+lo*sz) (n*sz)=flat ((us.drop lo).take n):=by
 have h1:seg c (o+lo*sz) (n*sz)=(((seg c o (m*sz)).drop (lo*sz)).take (n*sz)):=by
  apply List.ext_getElem?
  intro k
  simp only [seg,List.getElem?_take,List.getElem?_drop]
  by_cases hk:k<n*sz
  ·have:lo*sz+n*sz≤m*sz:=by rw [← Nat.add_mul];exact Nat.mul_le_mul_right _ hn
   rw [if_pos hk,if_pos hk,if_pos (by omega),Nat.add_assoc]
  ·rw [if_neg hk,if_neg hk]
 rw [h1,h,zJJ hs,zIJ (fun u hu=>hs u (List.mem_of_mem_drop hu))]
theorem zAX.map_isAgg {us:List Value} {xs:List PV} (h:us.map zCa=xs.map PV.isAgg) (lo n:Nat):((us.drop lo).take n).map zCa=((xs.drop lo).take n).map PV.isAgg:=by
 rw [List.map_take,List.map_drop,h,List.map_take,List.map_drop]
section
variable {w:World} {Φ Φ':Nat→Prop} {rv:Nat→Value} {E E':Nat→PV}
theorem zBN {A:Al} {ps:List PV} {us:List Value} (h:zAX w Φ A ps us []) (c n:Nat):zAX w Φ A ((ps.drop c).take n) ((us.drop c).take n) []:=by
 have key:∀ (ps:List PV) (us:List Value) (c n:Nat),zAX w Φ A ps us []→zAX w Φ A ((ps.drop c).take n) ((us.drop c).take n) []:=by
  intro ps
  induction ps with
  | nil=>intro us c n h;rw [h.1];simp [zAX]
  | cons p ps ih =>
   intro us c n h
   obtain ⟨v,vs,L1,L2,rfl,hL,h1,h2⟩:=h
   obtain ⟨rfl,rfl⟩:L1=[]∧L2=[]:=by simpa using hL.symm
   cases c with
   | succ c=>simpa using ih vs c n h2
   | zero =>
    cases n with
    | zero=>simp [zAX]
    | succ n=>exact ⟨v,_,[],[],rfl,rfl,h1,by simpa using ih vs 0 n h2⟩
 exact key ps us c n h
theorem zCZ {a:PV} {v:Value} (hw:a.isWay=true) (h:zA1 w rv E a v):v.oneCell'=true:=by
 cases a<;>first | cases hw | skip
 ·obtain ⟨_,a,rfl,_⟩:=h;rfl
 ·obtain ⟨_,⟨a,c,rfl,_⟩,_⟩:=h;rfl
 ·obtain ⟨_,a,c,rfl,_⟩:=h;rfl
 ·obtain ⟨_,⟨b,rfl⟩,_⟩:=h;rfl
 ·exact h.elim
theorem zB2 {A:Al} (hA:∀ a v,a.isWay=true→A a v→v.oneCell'=true) {q:PV} {u:Value} {L:List Nat} (h:Rep w Φ A q u L) (hq:q.oneCell=true):u.oneCell'=true:=by
 cases q<;>first | cases hq | skip
 case int=>rw [h.1];rfl
 case bool=>rw [h.1];rfl
 case nilp=>rw [h.1];rfl
 case nilf=>rw [h.1];rfl
 case nilm=>rw [h.1];rfl
 case nn=>obtain ⟨_,a,n,rfl⟩:=h;rfl
 case nils=>rw [h.1];rfl
 case sl=>obtain ⟨_,⟨_,a,n,rfl,_⟩ | ⟨a,n,c,us,sz,rfl,_⟩⟩:=h<;>rfl
 case own=>obtain ⟨_,_,rfl⟩ | ⟨a,n,c,us,L',_,rfl,_⟩:=h<;>rfl
 case ref=>obtain ⟨_,a,c,u,rfl,_⟩:=h;rfl
 case box=>obtain ⟨a,c,u,L',_,rfl,_⟩:=h;rfl
 case map=>obtain ⟨_,b,e,rfl,_⟩:=h;rfl
 case omap=>obtain ⟨b,e,_,rfl,_⟩:=h;rfl
 case func=>obtain ⟨_,fs,cs,rfl,_⟩:=h;rfl
 all_goals exact hA _ _ rfl h.2
theorem zBB {v:Value} (h:v.oneCell'=true):v.cells=#[v]∧zCa v=false:=by
 cases v<;>first | exact ⟨rfl,rfl⟩ | cases h
theorem zBe {p:PV} (h:p.oneCell=true):p.cells=[p]∧p.isAgg=false:=by
 cases p<;>first | exact ⟨rfl,rfl⟩ | cases h
theorem zPD {A A':Al} (hA1:∀ a v,a.isWay=true→A a v→v.oneCell'=true) (hΦ:∀ b,Φ b→Φ' b) (hA:∀ a v,a.isWay=true→A a v→A' a v) {x:PV} {xv:Value} {Lx:List Nat} (hx:Rep w Φ A x xv Lx) (hL:∀ b∈Lx,Φ' b) {i c:Nat} {sh:Option Nat} {v:Value} {a:Addr}
  (hv:v = .pointer (some a)) (ha:∀ a',zA2 xv x i c=some a'→a=a'):Rep w Φ' A' (zDy i c sh x) v []:=by
 simp only [zDy]
 cases hh:zA7 x with
 | none=>rfl
 | some xs =>
  simp only
  cases hi:xs[i]? with
  | none=>rfl
  | some y =>
   simp only
   obtain ⟨ux,row,ad,Ly,h1,h2,h3,h4,h5,h6,h7,h8,h9⟩:=zLf hx hh hi
   have jH:=ha _ (h5 c)
   have hbel:∀ a v,a.isWay=true→zGF A x a v→A' a v:=fun a v hw h=>hA a v hw (zF4 h)
   cases sh with
   | some m =>
    simp only
    by_cases yP:c+m≤y.cells.length
    ·rw [Nat.ble_eq_true_of_le yP]
     cases hya:y.isAgg with
     | false=>rfl
     | true =>
      simp only [Bool.and_self,cond_true]
      cases y<;>simp [PV.isAgg] at hya
      rename_i cs
      obtain ⟨vs,rfl,hr⟩:=h9
      have j4:=zBN (zDl hΦ cs _ Ly (fun b hb=>hL b (h4 b hb)) hr) c m
      have hZ:=hr.length
      refine ⟨rfl,a,row,.agg ((vs.toList.drop c).take m).toArray,hv,by rw [jH];rfl,by rw [jH];exact hL _ h1,by rw [jH];exact h3.any,?_,⟨?_,rfl⟩,?_⟩
      ·rw [jH]
       simp only [zAr,PV.cells,zBf,Value.cells]
       have:=h6 c m yP
       simp only [PV.cells] at yP
       rw [show ((cs.drop c).take m).length=m by simp;omega,this];rfl
      ·simp only [Value.cells,PV.cells,zBf];simp at hZ ⊢;omega
      ·refine ⟨_,rfl,?_⟩
       have e:zAD ((cs.drop c).take m)=((zAD cs).drop c).take m:=by rw [zCs,zCs,List.map_take,List.map_drop]
       simp only [PV.cells] 
       rw [e]
       exact j4.mono zDe.refl hbel (by simp)
    ·have:Nat.ble (c+m) y.cells.length=false:=by
      cases hb:Nat.ble (c+m) y.cells.length with
      | false=>rfl
      | true=>exact absurd (Nat.le_of_ble_eq_true hb) yP
     rw [this];rfl
   | none =>
    simp only
    cases hc:y.cells[c]? with
    | none=>rfl
    | some q =>
     simp only
     obtain ⟨u,La,Lu,Lb,hu,vj,kh,_,_⟩:=h9.cell hc h7
     have yN:c<y.cells.length:=(List.getElem?_eq_some_iff.1 hc).1
     cases uL:q.oneCell with
     | false=>rfl
     | true =>
      simp only [cond_true]
      have kd:=zBB (zB2 (fun a v hw h=>hA1 a v hw (zF4 h)) kh uL)
      have vk:=zBe uL
      refine ⟨rfl,a,row,u,hv,by rw [jH];rfl,by rw [jH];exact hL _ h1,by rw [jH];exact h3.any,?_,⟨?_,?_⟩,?_⟩
      ·rw [jH,zCX,vk.1,kd.1]
       have:=h6 c 1 (by omega)
       simp only [zAr,List.length_singleton]
       rw [this]
       have:c<ux.cells.toList.length:=by simpa [h8] using yN
       rw [List.drop_eq_getElem_cons this]
       have:ux.cells.toList[c]=u:=by rw [List.getElem?_eq_getElem this] at hu;simpa using hu
       simp [this]
      ·rw [zCX,vk.1,kd.1];rfl
      ·rw [zC0,vk.2,kd.2]
      ·exact (zD3 hΦ q u Lu (fun b hb=>hL b (h4 b (by rw [vj];simp [hb]))) kh).mono zDe.refl hbel (by simp)
end
theorem zL6 {u u':Value} (h:u.cells.toList=u'.cells.toList) (ha:zCa u=zCa u'):u=u':=by
 have hc:u.cells=u'.cells:=by
  have:=congrArg List.toArray h
  simpa using this
 cases hu:zCa u with
 | true =>
  rw [hu] at ha
  cases u<;>simp [zCa] at hu
  cases u'<;>simp [zCa] at ha
  exact congrArg Value.agg hc
 | false =>
  rw [hu] at ha
  have h1:u.cells=#[u]:=by cases u<;>first | rfl | simp [zCa] at hu
  have h2:u'.cells=#[u']:=by cases u'<;>first | rfl | simp [zCa] at ha
  rw [h1,h2] at hc
  simpa using hc
theorem zOB {sz:Nat}:∀ {us us':List Value},(∀ u∈us,u.cells.size=sz)→(∀ u∈us',u.cells.size=sz)→us.map zCa=us'.map zCa→flat us=flat us'→us=us'
 | [],[],_,_,_,_=>rfl
 | [],_::_,_,_,h,_=>by simp at h
 | _::_,[],_,_,h,_=>by simp at h
 | u :: us,u'::us',h1,h2,ha,hf=>by
  simp only [List.map_cons,List.cons.injEq] at ha
  rw [zCk,zCk] at hf
  have hl:u.cells.toList.length=u'.cells.toList.length:=by
   have:=h1 u (by simp);have:=h2 u' (by simp);simp;omega
  obtain ⟨h3,h4⟩:=List.append_inj hf hl
  rw [zL6 h3 ha.1,zOB (fun u hu=>h1 u (by simp [hu])) (fun u hu=>h2 u (by simp [hu])) ha.2 h4]
section
variable {w:World} {Φ Φ':Nat→Prop}
theorem zEB.uniq {b:Nat} {c c':Array Value} (h:zEB w b c) (h':zEB w b c'):c=c':=by
 obtain ⟨e,h⟩:=h;obtain ⟨e',h'⟩:=h'
 rw [h] at h';cases h';rfl
mutual
theorem Rep.uniq {A A':Al}:∀ (p:PV) (v:Value) (L L':List Nat),Rep w Φ A p v L→Rep w Φ' A' p v L'→L=L'
 | .own sz xs,v,L,L',h,h'=>by
  obtain ⟨h1,h2,h3⟩ | ⟨a,n,c,us,M,rfl,h1,h2,h3,h4,h5,h6,h7,h8,h9⟩:=h
  ·obtain ⟨_,g2,_⟩ | ⟨a,n,c,us,M,rfl,g1,_⟩:=h'
   ·rw [h2,g2]
   ·rw [h3] at g1;cases g1
  ·obtain ⟨_,_,g3⟩ | ⟨a',n',c',us',M',rfl,g1,g2,g3,g4,g5,g6,g7,g8,g9⟩:=h'
   ·rw [h1] at g3;cases g3
   ·rw [h1] at g1;cases g1
    have:=h4.uniq g4;subst this
    have:us=us':=zOB h7.1 g7.1 (h7.2.trans g7.2.symm) (h8.symm.trans g8)
    subst this
    rw [zAX.uniq xs us M M' h9 g9]
 | .box q,v,L,L',h,h'=>by
  obtain ⟨a,c,u,M,rfl,h1,h2,h4,h5,h6,h7⟩:=h
  obtain ⟨a',c',u',M',rfl,g1,g2,g4,g5,g6,g7⟩:=h'
  rw [h1] at g1;cases g1
  have:=h4.uniq g4;subst this
  have:u=u':=zL6 (h5.symm.trans g5) (h6.2.trans g6.2.symm)
  subst this
  rw [Rep.uniq q u M M' h7 g7]
 | .omap es,v,L,L',h,h'=>by
  obtain ⟨b,ents,rfl,h1,h3,h4⟩:=h
  obtain ⟨b',ents',rfl,g1,g3,g4⟩:=h'
  rw [h1] at g1;cases g1;rfl
 | .agg cs,v,L,L',h,h'=>by
  obtain ⟨vs,rfl,h⟩:=h
  obtain ⟨vs',g1,h'⟩:=h'
  cases g1;exact zAX.uniq cs _ L L' h h'
 | .tup cs,v,L,L',h,h'=>by
  obtain ⟨vs,rfl,h⟩:=h
  obtain ⟨vs',g1,h'⟩:=h'
  cases g1;exact zAX.uniq cs _ L L' h h'
 | .lock q,v,L,L',h,h'=>Rep.uniq q v L L' h h'
 | .bad,_,_,_,h,h'=>by rw [show _=_ from h,show _=_ from h']
 | .und,_,_,_,h,h'=>by rw [h.2,h'.2]
 | .int ..,_,_,_,h,h'=>by rw [h.2,h'.2]
 | .bool _,_,_,_,h,h'=>by rw [h.2,h'.2]
 | .nilp,_,_,_,h,h'=>by rw [h.2,h'.2]
 | .nilf,_,_,_,h,h'=>by rw [h.2,h'.2]
 | .nilm,_,_,_,h,h'=>by rw [h.2,h'.2]
 | .nn,_,_,_,h,h'=>by rw [h.1,h'.1]
 | .nils _,_,_,_,h,h'=>by rw [h.2,h'.2]
 | .sl xs,_,_,_,h,h'=>by rw [h.1,h'.1]
 | .ref q,_,_,_,h,h'=>by rw [h.1,h'.1]
 | .map es,_,_,_,h,h'=>by rw [h.1,h'.1]
 | .func _ _ _,_,_,_,h,h'=>by rw [h.1,h'.1]
 | .addr ..,_,_,_,h,h'=>by rw [h.1,h'.1]
 | .bor ..,_,_,_,h,h'=>by rw [h.1,h'.1]
 | .bsl ..,_,_,_,h,h'=>by rw [h.1,h'.1]
 | .bmap ..,_,_,_,h,h'=>by rw [h.1,h'.1]
 | .yld _,_,_,_,h,h'=>by rw [h.1,h'.1]
 | .log ..,_,_,_,h,h'=>by rw [h.1,h'.1]
theorem zAX.uniq {A A':Al}:∀ (ps:List PV) (vs:List Value) (L L':List Nat),zAX w Φ A ps vs L→zAX w Φ' A' ps vs L'→L=L'
 | [],_,_,_,h,h'=>by rw [h.2,h'.2]
 | p::ps,vs,L,L',h,h'=>by
  obtain ⟨v,vs',L1,L2,rfl,rfl,h1,h2⟩:=h
  obtain ⟨v',vs'',M1,M2,g0,rfl,g1,g2⟩:=h'
  cases g0
  rw [Rep.uniq p v L1 M1 h1 g1,zAX.uniq ps vs' L2 M2 h2 g2]
end
end
theorem zHV {w:World} {Φ Φ':Nat→Prop} {A A':Al} (hΦ:∀ b,Φ b→Φ' b) {x:PV} {xv:Value} {Lx:List Nat} (hx:Rep w Φ A x xv Lx) (hL:∀ b∈Lx,Φ' b) {z lo n:Nat} {v:Value}
  (ha:∀ sz xs,x = .own sz xs→z=sz∧zBH v xv sz lo n):Rep w Φ' A' (zCq lo n x) v []:=by
 cases x<;>try rfl
 rename_i sz xs
 simp only [zCq]
 by_cases yP:lo+n≤xs.length
 ·rw [Nat.ble_eq_true_of_le yP];simp only [cond_true]
  obtain ⟨_,hs⟩:=ha sz xs rfl
  obtain ⟨h1,h2,h3⟩ | ⟨a,m,c,us,M,rfl,h1,h2,h3,h4,h5,h6,h7,h8,h9⟩:=hx
  ·subst h1;subst h3
   have hn:n=0:=by simp at yP;omega
   subst hn
   refine ⟨rfl,.inl ⟨by simp [zAD],none,0,hs.1,fun _=>rfl⟩⟩
  ·subst h1
   obtain ⟨rfl,yR⟩:=hs
   have jC:us.length=xs.length:=by have:=congrArg List.length h7.2;simpa using this
   by_cases hn:n=0
   ·subst hn;exact ⟨rfl,.inl ⟨by simp [zAD],_,_,rfl,fun h=>by cases h⟩⟩
   ·refine ⟨rfl,.inr ⟨zAr a (lo*sz),m-lo,c,(us.drop lo).take n,sz,?_,rfl,?_,hL _ (by simp [zAr]),h4.any,?_,⟨?_,?_⟩,?_,?_⟩⟩
    ·rw [zBf,show ((xs.drop lo).take n).length=n by simp;omega]
    ·rw [zBf];simp;omega
    ·intro y hy
     rw [zCs] at hy
     obtain ⟨y,uM,rfl⟩:=List.mem_map.1 hy
     rw [zCX];exact h6 y (List.mem_of_mem_drop (List.mem_of_mem_take uM))
    ·intro u hu;exact h7.1 u (List.mem_of_mem_drop (List.mem_of_mem_take hu))
    ·rw [zHi];exact zAX.map_isAgg h7.2 lo n
    ·rw [zBf,show ((xs.drop lo).take n).length=n by simp;omega]
     exact zIr h7.1 jC h8 (by omega)
    ·have e:zAD ((xs.drop lo).take n)=((zAD xs).drop lo).take n:=by rw [zCs,zCs,List.map_take,List.map_drop]
     rw [e]
     exact zBN (zDl hΦ xs us M (fun b hb=>hL b (by simp [hb])) h9) lo n
 ·have:Nat.ble (lo+n) xs.length=false:=by
   cases hb:Nat.ble (lo+n) xs.length with
   | false=>rfl
   | true=>exact absurd (Nat.le_of_ble_eq_true hb) yP
  rw [this];rfl
theorem zGT {w:World} {Φ Φ':Nat→Prop} {A A':Al} (hΦ:∀ b,Φ b→Φ' b) {x:PV} {xv:Value} {Lx:List Nat} (hx:Rep w Φ A x xv Lx) (hL:∀ b∈Lx,Φ' b) {v:Value}
  (ha:∀ es,x = .omap es→v=xv):Rep w Φ' A' (zEz x) v []:=by
 cases x<;>try rfl
 rename_i es
 obtain ⟨b,ents,rfl,h1,h3,h4⟩:=hx
 refine ⟨rfl,b,ents,(ha es rfl).trans h1,hL _ (by simp),h3,zDQ.same (fun b hb=>⟨hΦ b hb,rfl⟩) es _ _ h4⟩
section
variable {w:World} {Φ Φ':Nat→Prop}
mutual
theorem Rep.ways {A A':Al}:∀ (p:PV) (v:Value) (L:List Nat),(∀ a v,a.isWay=true→(∀ x∈a.ways,x∈p.ways)→A a v→A' a v)→Rep w Φ A p v L→Rep w Φ A' p v L
 | .bad,_,_,_,h=>h
 | .und,_,_,_,h=>h
 | .int ..,_,_,_,h=>h
 | .bool _,_,_,_,h=>h
 | .nilp,_,_,_,h=>h
 | .nilf,_,_,_,h=>h
 | .nilm,_,_,_,h=>h
 | .nn,_,_,_,h=>h
 | .nils _,_,_,_,h=>h
 | .agg cs,v,L,hA,h=>by
  obtain ⟨vs,rfl,h⟩:=h
  exact ⟨vs,rfl,zAX.ways cs _ L (fun a v hw hx ha=>hA a v hw hx ha) h⟩
 | .tup cs,v,L,hA,h=>by
  obtain ⟨vs,rfl,h⟩:=h
  exact ⟨vs,rfl,zAX.ways cs _ L (fun a v hw hx ha=>hA a v hw hx ha) h⟩
 | .sl xs,_,_,_,h=>h
 | .own sz xs,_,_,_,h=>h
 | .ref q,v,L,hA,h=>by
  obtain ⟨rfl,a,c,u,h1,h2,h3,h4,h5,h6,h7⟩:=h
  exact ⟨rfl,a,c,u,h1,h2,h3,h4,h5,h6,Rep.ways q u [] (fun a v hw hx ha=>hA a v hw hx ha) h7⟩
 | .box q,v,L,hA,h=>by
  obtain ⟨a,c,u,L',h0,h1,h2,h4,h5,h6,h7⟩:=h
  exact ⟨a,c,u,L',h0,h1,h2,h4,h5,h6,Rep.ways q u L' (fun a v hw hx ha=>hA a v hw hx ha) h7⟩
 | .map es,_,_,_,h=>h
 | .omap es,_,_,_,h=>h
 | .func g a b,v,L,hA,h=>by
  obtain ⟨rfl,fs,cs,h1,h2,h3⟩:=h
  exact ⟨rfl,fs,cs,h1,zAX.ways a _ [] (fun x v hw hx ha=>hA x v hw (fun y hy=>List.mem_append.2 (.inl (hx y hy))) ha) h2,zAX.ways b _ [] (fun x v hw hx ha=>hA x v hw (fun y hy=>List.mem_append.2 (.inr (hx y hy))) ha) h3⟩
 | .addr ..,v,L,hA,h=>⟨h.1,hA _ _ rfl (fun _ h=>h) h.2⟩
 | .bor ..,v,L,hA,h=>⟨h.1,hA _ _ rfl (fun _ h=>h) h.2⟩
 | .bsl ..,v,L,hA,h=>⟨h.1,hA _ _ rfl (fun _ h=>h) h.2⟩
 | .bmap ..,v,L,hA,h=>⟨h.1,hA _ _ rfl (fun _ h=>h) h.2⟩
 | .lock q,v,L,hA,h=>Rep.ways q v L (fun a v hw hx ha=>hA a v hw hx ha) h
 | .yld _,v,L,hA,h=>h
 | .log ..,v,L,hA,h=>⟨h.1,hA _ _ rfl (fun _ h=>h) h.2⟩
theorem zAX.ways {A A':Al}:∀ (ps:List PV) (vs:List Value) (L:List Nat),(∀ a v,a.isWay=true→(∀ x∈a.ways,x∈zBq ps)→A a v→A' a v)→zAX w Φ A ps vs L→zAX w Φ A' ps vs L
 | [],_,_,_,h=>h
 | p::ps,vs,L,hA,h=>by
  obtain ⟨v,vs',L1,L2,h0,h1,h2,h3⟩:=h
  exact ⟨v,vs',L1,L2,h0,h1,Rep.ways p v L1 (fun a v hw hx ha=>hA a v hw (fun y hy=>List.mem_append.2 (.inl (hx y hy))) ha) h2,zAX.ways ps vs' L2 (fun a v hw hx ha=>hA a v hw (fun y hy=>List.mem_append.2 (.inr (hx y hy))) ha) h3⟩
end
mutual
theorem zGy:∀ p:PV,∀ x∈(zAR p).ways,x∈p.ways
 | .agg cs,x,h=>zHh cs x h
 | .box q,x,h=>zGy q x h
 | .own ..,x,h=>by cases h
 | .omap _,x,h=>by cases h
 | .tup _,x,h=>by cases h
 | .lock _,x,h=>by cases h
 | .bad,_,h=>h
 | .und,_,h=>h
 | .int ..,_,h=>h
 | .bool _,_,h=>h
 | .nilp,_,h=>h
 | .nilf,_,h=>h
 | .nilm,_,h=>h
 | .nn,_,h=>h
 | .nils _,_,h=>h
 | .sl _,_,h=>h
 | .ref _,_,h=>h
 | .map _,_,h=>h
 | .func ..,_,h=>h
 | .addr ..,_,h=>h
 | .bor ..,_,h=>h
 | .bsl ..,_,h=>h
 | .bmap ..,_,h=>h
 | .yld _,_,h=>h
 | .log ..,_,h=>h
theorem zHh:∀ ps:List PV,∀ x∈zBq (zAD ps),x∈zBq ps
 | [],_,h=>h
 | p::ps,x,h=>by
  simp only [zAD,zBq,List.mem_append] at h ⊢
  rcases h with h | h
  ·exact .inl (zGy p x h)
  ·exact .inr (zHh ps x h)
end
theorem zJ1 (p:PV):(zAR p).oneCell=p.oneCell:=by cases p<;>rfl
theorem zDX (ag:Bool) (sz:Nat):∀ (m:Nat) (cs:List PV),(zCf ag sz m cs).length=m
 | 0,_=>rfl
 | m+1,cs=>by simp [zCf,zDX ag sz m]
theorem zGa {A:Al} (hA:∀ a v,a.isWay=true→A a v→v.oneCell'=true) {ag:Bool} {sz:Nat}:∀ (m:Nat) (ps:List PV) (us:List Value),ps.length=m*sz→(ag=false→sz=1∧∀ q∈ps,q.oneCell=true)→zAX w Φ A ps us [] →
  ∃ us',zAX w Φ A (zCf ag sz m ps) us' []∧flat us'=us∧(∀ u∈us',u.cells.size=sz)∧us'.map zCa=(zCf ag sz m ps).map PV.isAgg∧∀ x∈zCf ag sz m ps,x.cells.length=sz
 | 0,ps,us,hl,_,h=>by
  have:ps=[]:=List.eq_nil_of_length_eq_zero (by simpa using hl)
  subst this
  exact ⟨[],⟨rfl,rfl⟩,by rw [h.1];rfl,by simp,rfl,by simp [zCf]⟩
 | m + 1,ps,us,hl,ho,h=>by
  have jC:=h.length
  rw [Nat.succ_mul] at hl
  have h1:zAX w Φ A (ps.take sz) (us.take sz) []:=by simpa using zBN h 0 sz
  have h2:zAX w Φ A (ps.drop sz) (us.drop sz) []:=by
   have:=zBN h sz (ps.length-sz)
   rwa [List.take_of_length_le (by simp),List.take_of_length_le (by simp;omega)] at this
  obtain ⟨us',h3,h4,h5,h6,h7⟩:=zGa hA (ag:=ag) (sz:=sz) m (ps.drop sz) (us.drop sz) (by simp;omega) (fun jb=>⟨(ho jb).1,fun q hq=>(ho jb).2 q (List.mem_of_mem_drop hq)⟩) h2
  cases ag with
  | true =>
   refine ⟨.agg (us.take sz).toArray::us',⟨_,us',[],[],rfl,rfl,⟨_,rfl,by simpa using h1⟩,h3⟩,?_,?_,?_,?_⟩
   ·rw [zCk,h4];simp [Value.cells]
   ·intro u hu
    rcases List.mem_cons.1 hu with rfl | hu
    ·simp [Value.cells];omega
    ·exact h5 u hu
   ·simp only [zCf,cond_true,List.map_cons,h6];rfl
   ·intro x hx
    simp only [zCf,cond_true] at hx
    rcases List.mem_cons.1 hx with rfl | hx
    ·simp [PV.cells];omega
    ·exact h7 x hx
  | false =>
   obtain ⟨ul,yO⟩:=ho rfl
   subst ul
   match ps,us,h,yO,hl with
   | p :: ps,us,h,yO,hl =>
    obtain ⟨v,vs',L1,L2,rfl,hL,g1,g2⟩:=h
    obtain ⟨rfl,rfl⟩:L1=[]∧L2=[]:=by simpa using hL.symm
    have hp:=yO p (by simp)
    have k1:=zBB (zB2 hA g1 hp)
    have k2:=zBe hp
    refine ⟨v::us',⟨v,us',[],[],rfl,rfl,g1,h3⟩,?_,?_,?_,?_⟩
    ·rw [zCk,h4,k1.1];simp
    ·intro u hu
     rcases List.mem_cons.1 hu with rfl | hu
     ·rw [k1.1];rfl
     ·exact h5 u hu
    ·simp only [zCf,cond_false,List.headD_cons,List.map_cons,k1.2,k2.2]
     congr 1
    ·intro x hx
     simp only [zCf,cond_false,List.headD_cons] at hx
     rcases List.mem_cons.1 hx with rfl | hx
     ·rw [k2.1];rfl
     ·exact h7 x hx
end
section
variable {w:World} {Φ Φ':Nat→Prop} {rv:Nat→Value} {E E':Nat→PV} {A:Al}
theorem zGr {ps:List PV} {us:List Value} {Lx:List Nat} (h:zAX w Φ A ps us Lx) (c n:Nat):∃ Ly,(∀ b∈Ly,b∈Lx)∧zAX w Φ A ((ps.drop c).take n) ((us.drop c).take n) Ly:=by
 induction ps generalizing us Lx c n with
 | nil=>rw [h.1];exact ⟨[],by simp,by simp [zAX]⟩
 | cons p ps ih =>
  obtain ⟨v,vs',L1,L2,rfl,rfl,g1,g2⟩:=h
  cases c with
  | succ c=>obtain ⟨Ly,h1,h2⟩:=ih g2 c n;exact ⟨Ly,fun b hb=>by simp [h1 b hb],by simpa using h2⟩
  | zero =>
   cases n with
   | zero=>exact ⟨[],by simp,by simp [zAX]⟩
   | succ n =>
    obtain ⟨Ly,h1,h2⟩:=ih g2 0 n
    exact ⟨L1++Ly,fun b hb=>by rcases List.mem_append.1 hb with h | h;simp [h];simp [h1 b h],v,_,L1,Ly,rfl,rfl,g1,by simpa using h2⟩
end
section
variable {w:World} {Φ Φ':Nat→Prop} {rv:Nat→Value} {E E':Nat→PV}
theorem zIY {a:PV} {v:Value} (hw:a.isWay=true) (h:zA1 w rv E a v):a.ways≠[]:=by
 cases a<;>first | (cases hw;done) | exact h.elim | simp [PV.ways]
theorem zG8 {A A':Al} (hA1:∀ a v,a.isWay=true→A a v→a.ways≠[]) (hΦ:∀ b,Φ b→Φ' b) {x:PV} {xv:Value} {Li:List Nat} (vl:Rep w Φ A x xv Li) (jX:∀ b∈Li,Φ' b) {i c sz m cap:Nat} {ag:Bool} {v:Value} {ad:Addr}
  (hv:v = .slice (some ad) m cap) (yR:m≤cap) (hn:∀ a',zA2 xv x i c=some a'→ad=a'):Rep w Φ' A' (zCm i c sz ag m x) v []:=by
 simp only [zCm]
 cases hh:zA7 x with
 | none=>rfl
 | some xs =>
  simp only
  cases hi:xs[i]? with
  | none=>rfl
  | some y =>
   simp only
   cases hc:(zCg ag sz m ((y.cells.drop c).take (m*sz))&&(zBq y.cells).isEmpty) with
   | false=>rfl
   | true =>
    simp only [cond_true]
    simp only [Bool.and_eq_true,zCg] at hc
    obtain ⟨⟨yN,vI⟩,uV⟩:=hc
    have yN:=Nat.eq_of_beq_eq_true yN
    obtain ⟨ux,row,ad0,Lx,k1,k2,k3,k4,k5,k6,k7,k8,k9⟩:=zLf vl hh hi
    have jH:=hn _ (k5 c)
    subst jH
    have k9':=k9.mono (A':=A) zDe.refl (fun _ _ _ h=>zF4 h) (fun _ _=>rfl)
    have zA7:=k9'.cellsAll k7
    have wh:zAX w Φ zB5 y.cells ux.cells.toList Lx:=zA7.ways _ _ _ fun a v hw hx ha=>by
     have h0:zBq y.cells=[]:=by simpa using uV
     rw [h0] at hx
     have h1:=hA1 a v hw ha
     cases um:a.ways with
     | nil=>exact absurd um h1
     | cons z zs=>have:=hx z (by rw [um];simp);cases this
    obtain ⟨Ly,hly,wi⟩:=zGr wh c (m*sz)
    have qr:=zDl hΦ _ _ Ly (fun b hb=>jX b (k4 b (hly b hb))) wi
    obtain ⟨us',q1,q2,q3,q4,q5⟩:=zGa (ag:=ag) (sz:=sz) (fun a v _ h=>h.elim) m _ _ (by rw [zBf];exact yN) (fun jb=>by
     simp only [jb,Bool.false_or,Bool.and_eq_true] at vI
     refine ⟨Nat.eq_of_beq_eq_true vI.1,fun q hq=>?_⟩
     rw [zCs] at hq
     obtain ⟨q0,hq0,rfl⟩:=List.mem_map.1 hq
     rw [zJ1];exact List.all_eq_true.1 vI.2 q0 hq0) qr
    have qt:(zCf ag sz m (zAD ((y.cells.drop c).take (m*sz)))).length=m:=zDX _ _ _ _
    by_cases hm:m=0
    ·subst hm;exact ⟨rfl,.inl ⟨rfl,_,_,hv,fun h=>by cases h⟩⟩
    ·refine ⟨rfl,.inr ⟨zAr ad0 c,cap,row,us',sz,by rw [qt];exact hv,rfl,by rw [qt];exact yR,jX _ k1,k3.any,q5,⟨q3,q4⟩,?_,q1⟩⟩
     rw [qt,q2]
     by_cases wj:m*sz=0
     ·rw [wj];simp [seg]
     ·have:c+m*sz≤y.cells.length:=by simp at yN;omega
      exact k6 c (m*sz) this
end
theorem zIk (r:Nat) (pre:zAQ) (q:PV):Tame (inl r pre q):=by
 have h1 : ∀ i c sh x,(zDy i c sh x).isAgg=false∧(zDy i c sh x).dull=true:=by
  intro i c sh x
  simp only [zDy]
  split
  ·split
   ·split
    ·cases (Nat.ble _ _&&PV.isAgg _)<;>exact ⟨rfl,rfl⟩
    ·split
     ·rename_i q _;cases q.oneCell<;>exact ⟨rfl,rfl⟩
     ·exact ⟨rfl,rfl⟩
   ·exact ⟨rfl,rfl⟩
  ·exact ⟨rfl,rfl⟩
 have h2:∀ lo n x,(zCq lo n x).isAgg=false∧(zCq lo n x).dull=true:=by
  intro lo n x
  cases x<;>try exact ⟨rfl,rfl⟩
  simp only [zCq];cases Nat.ble _ _<;>exact ⟨rfl,rfl⟩
 have h5:∀ i c sz ag m x,(zCm i c sz ag m x).isAgg=false∧(zCm i c sz ag m x).dull=true:=by
  intro i c sz ag m x
  simp only [zCm]
  split
  ·split
   ·cases (zCg ag sz m _&&_)<;>exact ⟨rfl,rfl⟩
   ·exact ⟨rfl,rfl⟩
  ·exact ⟨rfl,rfl⟩
 have h3:∀ x,(zEz x).isAgg=false∧(zEz x).dull=true:=by intro x;cases x<;>exact ⟨rfl,rfl⟩
 have h4:∀ (o:Option PV) (f:PV→PV),(∀ x,(f x).isAgg=false∧(f x).dull=true)→(zGg o f).isAgg=false∧(zGg o f).dull=true:=by
  intro o f hf;cases o with
  | none=>exact ⟨rfl,rfl⟩
  | some x=>exact hf x
 constructor
 ·intro p
  cases p<;>try rfl
  all_goals
   rename_i a b
   simp only [inl]
   cases zAI r pre _ _<;>first | rfl | exact (h4 _ _ (h1 _ _ _)).1 | exact (h4 _ _ (h2 _ _)).1 | exact (h4 _ _ h3).1 | exact (h4 _ _ (h5 _ _ _ _ _)).1
 ·intro p hp
  cases p<;>first | (cases hp;done) | skip
  all_goals
   first | rfl | skip
  all_goals
   simp only [inl]
   cases zAI r pre _ _<;>first | rfl | exact (h4 _ _ (h1 _ _ _)).2 | exact (h4 _ _ (h2 _ _)).2 | exact (h4 _ _ h3).2 | exact (h4 _ _ (h5 _ _ _ _ _)).2
theorem zBE {w:World} {Φ:Nat→Prop} {A:Al} {p:PV} {v:Value} {L:List Nat} (h:Rep w Φ A p v L) {pre:zAQ} {q:PV} (hq:zAy p pre=some q) :
  ∃ nv Li,zAO w v p pre=some (nv,q)∧(∀ b∈Li,b∈L)∧Rep w Φ (zIe A p pre) q nv Li:=by
 obtain ⟨nv,La,Li,Lb,h1,h2,h3,_⟩:=Rep.zip pre h hq
 exact ⟨nv,Li,h1,fun b hb=>by rw [h2];simp [hb],h3⟩
theorem zEe {r r':Nat} {pre q:zAQ}:zAI r pre r' q=true↔r'=r∧∃ rest,q=pre++rest:=by
 simp only [zAI,Bool.and_eq_true,List.isPrefixOf_iff_prefix]
 constructor
 ·rintro ⟨h1,rest,h2⟩;exact ⟨Nat.eq_of_beq_eq_true h1,rest,h2.symm⟩
 ·rintro ⟨rfl,rest,h2⟩;exact ⟨Nat.beq_refl _,rest,h2.symm⟩
section
variable {w w0:World} {U Φ0 Φ:Nat→Prop} {rv:Nat→Value} {E:Nat→PV} {L:Nat→List Nat}
theorem Conf.ice (h:Conf w0 U Φ0 w Φ rv E L) (M:Nat→Bool) {r:Nat} (hr:r<zAb) {pre:zAQ} {q root':PV} (jT:(E r).unlock=E r) (hn:zAy (E r) pre=some q)
  (hm:zAt (fun _=>some (zAR q)) (E r) pre=some root') (yH:root'.unlock=root') :
  ∃ nv Li L',zAO w (rv r) (E r) pre=some (nv,q)∧Rep w Φ (zIe (zA1 w rv E) (E r) pre) q nv Li∧(∀ s,s≠r→L' s=L s) ∧
   Conf w0 U Φ0 w (fun b=>Φ b∨b∈Li) rv (fun s=>if s<zAb∨M s=true then (if s=r then root' else E s).mapW (inl r pre q) else E s) L':=by
 obtain ⟨nv,La,Li,Lb,vF,hL,hX,vi,uR⟩:=Rep.zip pre (h.rep r) hn
 have hΦ:∀ b,Φ b→Φ b∨b∈Li:=fun b hb => .inl hb
 have un:=zIk r pre q
 have yU:=h.nodup r
 rw [hL] at yU
 simp only [List.nodup_append] at yU
 have vH:∀ b∈Li,b∉La++Lb:=by
  intro b hb j6
  rcases List.mem_append.1 j6 with h2 | h2
  ·exact yU.1.2.2 b h2 b hb rfl
  ·exact yU.2.2 b (by simp [hb]) b h2 rfl
 have hK:∀ a u,zA1 w rv E a u→zA1 w rv (fun s=>if s<zAb∨M s=true then (if s=r then root' else E s).mapW (inl r pre q) else E s) a u:=by
  intro a u ha
  have yD:=zCS ha
  refine ha.mono fun nv2 np2 ja hh=>?_
  simp only [yD,true_or,if_true] at ja
  rw [zDp un] at ja
  obtain ⟨np1,vY,wk⟩:=zCQ un ja hh
  by_cases uT:(zA3 a).1=r
  ·rw [uT] at vY ⊢
   simp only [if_true,yH] at vY
   rcases uR w (zAR q) root' (fun _ _=>rfl) (fun _=>zC0 q) hm _ nv2 np1 vY (zDG wk) with ⟨rest,_,h2⟩ | ⟨np0,h1,h2⟩
   ·have:=zHK h2
    rw [zDG wk] at this;cases this
   ·rw [jT];exact ⟨np0,h1,h2.trans wk⟩
  ·simp only [uT,if_false] at vY
   exact ⟨np1,vY,wk⟩
 have hw1:∀ a v,a.isWay=true→zIe (zA1 w rv E) (E r) pre a v→zA1 w rv (fun s=>if s<zAb∨M s=true then (if s=r then root' else E s).mapW (inl r pre q) else E s) a v:=fun a v _ ha=>hK a v (zEx ha)
 have hA : ∀ a u,a.isWay=true→zA1 w rv E a u→Rep w (fun b=>Φ b∨b∈Li) (zA1 w rv (fun s=>if s<zAb∨M s=true then (if s=r then root' else E s).mapW (inl r pre q) else E s)) (inl r pre q a) u []:=by
  intro a u uk ha
  have node:∀ rest x,zAy q rest=some x→∃ xv Lx,zAO w (rv r) (E r).unlock (pre++rest)=some (xv,x)∧(∀ b∈Lx,b∈Li)∧Rep w Φ (zIe (zIe (zA1 w rv E) (E r) pre) q rest) x xv Lx:=by
   intro rest x hx
   obtain ⟨xv,Lx,h1,h2,h3⟩:=zBE hX hx
   exact ⟨xv,Lx,by rw [jT,zC9,vF];exact h1,h2,h3⟩
  have ho1:∀ rest a v,a.isWay=true→zIe (zIe (zA1 w rv E) (E r) pre) q rest a v→v.oneCell'=true:=fun rest a v hw h=>zCZ hw (zEx (zEx h))
  cases a<;>first | (cases uk;done) | skip
  case addr r' p i c sh =>
   simp only [inl]
   cases hu:zAI r pre r' p with
   | false=>exact ⟨rfl,hK _ _ ha⟩
   | true =>
    obtain ⟨rfl,rest,rfl⟩:=zEe.1 hu
    simp only [cond_true,List.drop_left]
    cases hg:zAy q rest with
    | none=>rfl
    | some x =>
     obtain ⟨xv,Lx,h1,h2,h3⟩:=node rest x hg
     obtain ⟨_,a',h4,h5,h6⟩:=ha
     exact zPD (ho1 rest) hΦ (fun a v hw h=>hw1 a v hw (zEx h)) h3 (fun b hb => .inr (h2 b hb)) h4 fun a'' qu=>h6 xv x h1 a'' qu
  case bor r' p z lo n =>
   simp only [inl]
   cases hu:zAI r pre r' p with
   | false=>exact ⟨rfl,hK _ _ ha⟩
   | true =>
    obtain ⟨rfl,rest,rfl⟩:=zEe.1 hu
    simp only [cond_true,List.drop_left]
    cases hg:zAy q rest with
    | none=>rfl
    | some x =>
     obtain ⟨xv,Lx,h1,h2,h3⟩:=node rest x hg
     obtain ⟨_,_,h6⟩:=ha
     exact zHV hΦ h3 (fun b hb => .inr (h2 b hb)) fun sz xs hx=>by
      subst hx
      obtain ⟨sz',xs',h7,h8,h9⟩:=h6 xv _ h1 rfl
      cases h7;exact ⟨h8,h9⟩
  case bsl r' p i c sz ag n =>
   simp only [inl]
   cases hu:zAI r pre r' p with
   | false=>exact ⟨rfl,hK _ _ ha⟩
   | true =>
    obtain ⟨rfl,rest,rfl⟩:=zEe.1 hu
    simp only [cond_true,List.drop_left]
    cases hg:zAy q rest with
    | none=>rfl
    | some x =>
     obtain ⟨xv,Lx,h1,h2,h3⟩:=node rest x hg
     obtain ⟨_,a',cap,h4,yR,h5,h6⟩:=ha
     exact zG8 (fun a v hw h=>zIY hw (zEx (zEx h))) hΦ h3 (fun b hb => .inr (h2 b hb)) h4 yR fun a'' qu=>h6 xv x h1 a'' qu
  case bmap r' p =>
   simp only [inl]
   cases hu:zAI r pre r' p with
   | false=>exact ⟨rfl,hK _ _ ha⟩
   | true =>
    obtain ⟨rfl,rest,rfl⟩:=zEe.1 hu
    simp only [cond_true,List.drop_left]
    cases hg:zAy q rest with
    | none=>rfl
    | some x =>
     obtain ⟨xv,Lx,h1,h2,h3⟩:=node rest x hg
     obtain ⟨_,_,h6⟩:=ha
     exact zGT hΦ h3 (fun b hb => .inr (h2 b hb)) fun es hx=>h6 xv x h1 es hx
  case log=>exact ha.elim
 have hs:zDe w w Φ (fun b=>Φ b∨b∈Li):=fun b hb=>⟨.inl hb,rfl⟩
 have y8:∀ b,b∈La++Lb→b∈L r:=fun b hb=>by rw [hL];simp at hb ⊢;rcases hb with h | h<;>simp [h]
 refine ⟨nv,Li,fun s=>if s=r then La++Lb else L s,vF,hX,fun s hs=>by simp [hs],?_,?_,?_,?_,?_,fun b hb => .inl (h.frz0 b hb),h.size,h.kept,h.os,h.tape,h.output⟩
 ·intro s
  by_cases y1:s=r
  ·subst y1
   simp only [if_true,hr,true_or]
   have h1:=vi w (fun b=>Φ b∨b∈Li) (zA1 w rv E) (zAR q) [] root' (fun _ _ _ h=>h) hs (fun _ _=>rfl) (fun _=>zC0 q) (zD3 hΦ q nv Li (fun b hb => .inr hb) hX) hm
   exact Rep.map un.agg zDe.refl hA _ _ _ (fun _ _=>rfl) (by simpa using h1)
  ·by_cases yc:s<zAb∨M s=true
   ·simp only [y1,yc,if_false,if_true]
    exact Rep.map un.agg hs hA _ _ _ (fun _ _=>rfl) (h.rep s)
   ·simp only [y1,yc,if_false]
    exact (h.rep s).mono hs (fun a u _ ha=>hK a u ha) (fun _ _=>rfl)
 ·intro s
  by_cases y1:s=r
  ·subst y1
   simp only [if_true,List.nodup_append]
   exact ⟨yU.1.1,yU.2.1,fun a ha b hb e=>yU.2.2 a (by simp [ha]) b hb e⟩
  ·simp only [y1,if_false];exact h.nodup s
 ·intro s s' hI b hb yI
  by_cases y1:s=r
  ·subst y1
   simp only [if_true] at hb
   rw [if_neg (Ne.symm hI)] at yI
   exact h.disj s s' hI b (y8 b hb) yI
  ·rw [if_neg y1] at hb
   by_cases hsr':s'=r
   ·subst hsr'
    simp only [if_true] at yI
    exact h.disj s s' hI b hb (y8 b yI)
   ·rw [if_neg hsr'] at yI;exact h.disj s s' hI b hb yI
 ·intro s b hb
  have jM:∃ t,b∈L t∧b∉Li:=by
   by_cases y1:s=r
   ·subst y1
    simp only [if_true] at hb
    exact ⟨s,y8 b hb,fun uS=>vH b uS hb⟩
   ·rw [if_neg y1] at hb
    exact ⟨s,hb,fun uS=>h.disj s r y1 b hb (by rw [hL];simp [uS])⟩
  obtain ⟨t,h1,h2⟩:=jM
  obtain ⟨h3,h4,h5⟩:=h.own t b h1
  exact ⟨h3,fun hp=>hp.elim h4 h2,h5⟩
 ·intro b hb
  rcases hb with hb | hb
  ·exact h.frz b hb
  ·obtain ⟨h3,h4,h5⟩:=h.own r b (by rw [hL];simp [hb])
   exact ⟨h3,.inr h5⟩
end
end Go.Eng
namespace Go.Eng
open Go
theorem Env.get_set (e:Env) (s:Nat) (p:PV) (t:Nat):(e.set s p).get t=if t=s then p else e.get t:=by
 induction e with
 | nil =>
  simp only [Env.set,Env.get]
  by_cases h:t=s
  ·subst h;simp
  ·have:Nat.beq s t=false:=by
    cases hb:Nat.beq s t with
    | false=>rfl
    | true=>exact absurd (Nat.eq_of_beq_eq_true hb).symm h
   simp [this,h]
 | cons x e ih =>
  obtain ⟨k,v⟩:=x
  simp only [Env.set]
  cases hk:Nat.beq k s with
  | true =>
   have:=Nat.eq_of_beq_eq_true hk;subst this
   simp only [cond_true,Env.get]
   by_cases h:t=k
   ·subst h;simp
   ·have:Nat.beq k t=false:=by
     cases hb:Nat.beq k t with
     | false=>rfl
     | true=>exact absurd (Nat.eq_of_beq_eq_true hb).symm h
    simp [this,h]
  | false =>
   have hI:k≠s:=fun h=>by subst h;simp at hk
   simp only [cond_false]
   cases Nat.ble s k with
   | true =>
    simp only [cond_true,Env.get]
    by_cases h:t=s
    ·subst h;simp
    ·have:Nat.beq s t=false:=by
      cases hb:Nat.beq s t with
      | false=>rfl
      | true=>exact absurd (Nat.eq_of_beq_eq_true hb).symm h
     simp [this,h]
   | false =>
    simp only [cond_false,Env.get,ih]
    cases hb:Nat.beq k t with
    | true =>
     have:=Nat.eq_of_beq_eq_true hb;subst this
     simp [hI]
    | false=>rfl
theorem Env.get_map (e:Env) {g:PV→PV} (hg:g .bad = .bad) (s:Nat):Env.get (e.map fun x=>(x.1,g x.2)) s=g (e.get s):=by
 induction e with
 | nil=>simp [Env.get,hg]
 | cons x e ih =>
  obtain ⟨k,v⟩:=x
  simp only [List.map_cons,Env.get,ih]
  cases Nat.beq k s<;>rfl
theorem Env.get_kill (e:Env) (r:Nat) (pre:zAQ) (s:Nat):(e.kill r pre).get s=(e.get s).mapW (lose r pre):=Env.get_map e (g:=fun p=>p.mapW (lose r pre)) rfl s
theorem Env.get_killEx (e:Env) (r:Nat) (keep:List zAQ) (s:Nat):(e.killEx r keep).get s=(e.get s).mapW (zBC r keep):=Env.get_map e (g:=fun p=>p.mapW (zBC r keep)) rfl s
theorem Env.get_drop (e:Env) (l:List Nat) (s:Nat):(e.drop l).get s=if zMp l s then .bad else e.get s:=by
 induction e with
 | nil=>simp [Env.drop,Env.get]
 | cons x e ih =>
  obtain ⟨k,v⟩:=x
  simp only [Env.drop] at ih ⊢
  simp only [List.filter_cons]
  by_cases hk:zMp l k=true
  ·simp only [hk,Bool.not_true,Bool.false_eq_true,if_false,ih,Env.get]
   cases hb:Nat.beq k s with
   | true=>have:=Nat.eq_of_beq_eq_true hb;subst this;simp [hk]
   | false=>rfl
  ·simp only [hk,Bool.not_false,if_true,Env.get,ih]
   cases hb:Nat.beq k s with
   | true=>have:=Nat.eq_of_beq_eq_true hb;subst this;simp [hk]
   | false=>rfl
theorem Env.frz_eq {e e':Env} {r:Nat} {pre:zAQ} (h:e.frz r pre=some e') :
  ∃ q root,(e.get r).isLock=false∧zAy (e.get r) pre=some q∧zAt (fun _=>some (zAR q)) (e.get r) pre=some root∧∀ s,e'.get s=(if s=r then root else e.get s).mapW (inl r pre q):=by
 simp only [Env.frz] at h
 cases hl:(e.get r).isLock with
 | true=>rw [hl] at h;cases h
 | false =>
 rw [hl] at h;simp only [cond_false] at h
 cases hq:zAy (e.get r) pre with
 | none=>rw [hq] at h;cases h
 | some q =>
  rw [hq] at h;simp only at h
  cases hm:zAt (fun _=>some (zAR q)) (e.get r) pre with
  | none=>rw [hm] at h;cases h
  | some root =>
   rw [hm] at h;simp only [Option.some.injEq] at h
   subst h
   refine ⟨q,root,rfl,rfl,hm,fun s=>?_⟩
   rw [Env.get_map (e.set r root) (g:=fun p=>p.mapW (inl r pre q)) rfl s,Env.get_set]
structure Hid where
 val:Nat→Value
 ds:List Deferred
structure St (w0:World) (U Φ0:Nat→Prop) (nt:Nat) (hv:Hid) (a:Act) (w:World) (e:Env) (Φ:Nat→Prop) (rv:Nat→Value) (E:Nat→PV) (L:Nat→List Nat):Prop where
 conf:Conf w0 U Φ0 w Φ rv E L
 env:∀ s,s<zAb→E s=e.get s
 size:a.tmps.size=nt
 small:nt≤2000000
 tmps:∀ t,t<nt→a.tmps.getD t undef=rv t
 parts:∀ d ps i,d<nt→E d = .tup ps→i<ps.length→i<16∧∃ vs,rv d = .tuple vs∧vs[i]? = some (rv (zBm d i))
 hid:∀ s,zAn≤s→s<zAw→rv s=hv.val s
 dfr:a.defers=hv.ds
def Fr (w0:World) (U Φ0:Nat→Prop) (nt:Nat) (hv:Hid) (a:Act) (w:World) (e:Env):Prop :=
 ∃ Φ rv E L,St w0 U Φ0 nt hv a w e Φ rv E L∧∀ g,zAb≤g→E g = .bad
def zAL (nt:Nat):Operand→Bool
 | .tmp t=>Nat.blt t nt
 | _=>true
theorem zBV {a b:Nat} (h:Nat.blt a b=true):a<b:=Nat.le_of_ble_eq_true h
section
variable {w0 w:World} {U Φ0 Φ:Nat→Prop} {nt:Nat} {hv:Hid} {a:Act} {e e':Env} {rv rv':Nat→Value} {E E':Nat→PV} {L L':Nat→List Nat} {o:zAC}
mutual
theorem zDg {A:Al}:∀ (p:PV) (v:Value) (L:List Nat),p.heavy=false→Rep w Φ A p v L→L=[]
 | .own ..,_,_,hp,_=>by cases hp
 | .box _,_,_,hp,_=>by cases hp
 | .omap _,_,_,hp,_=>by cases hp
 | .lock _,_,_,hp,_=>by cases hp
 | .agg cs,_,_,hp,h=>by obtain ⟨vs,_,h⟩:=h;exact zHF cs _ _ hp h
 | .tup cs,_,_,hp,h=>by obtain ⟨vs,_,h⟩:=h;exact zHF cs _ _ hp h
 | .bad,_,_,_,h=>h
 | .und,_,_,_,h=>h.2
 | .int ..,_,_,_,h=>h.2
 | .bool _,_,_,_,h=>h.2
 | .nilp,_,_,_,h=>h.2
 | .nilf,_,_,_,h=>h.2
 | .nilm,_,_,_,h=>h.2
 | .nn,_,_,_,h=>h.1
 | .nils _,_,_,_,h=>h.2
 | .sl xs,_,_,_,h=>h.1
 | .ref q,_,_,_,h=>h.1
 | .map es,_,_,_,h=>h.1
 | .func _ _ _,_,_,_,h=>h.1
 | .addr ..,_,_,_,h=>h.1
 | .bor ..,_,_,_,h=>h.1
 | .bsl ..,_,_,_,h=>h.1
 | .bmap ..,_,_,_,h=>h.1
 | .yld _,_,_,_,h=>h.1
 | .log ..,_,_,_,h=>h.1
theorem zHF {A:Al}:∀ (ps:List PV) (vs:List Value) (L:List Nat),zCW ps=false→zAX w Φ A ps vs L→L=[]
 | [],_,_,_,h=>h.2
 | p::ps,_,_,hp,h=>by
  simp only [zCW,Bool.or_eq_false_iff] at hp
  obtain ⟨v,vs',L1,L2,rfl,rfl,h1,h2⟩:=h
  rw [zDg p v L1 hp.1 h1,zHF ps vs' L2 hp.2 h2];rfl
end
def zXH (E E':Nat→PV):Prop:=∀ d ps,d<2000000→E' d = .tup ps→∃ ps',E d = .tup ps'∧ps'.length=ps.length
theorem zXH.refl:zXH E E:=fun _ ps _ h=>⟨ps,h,rfl⟩
theorem zC2 {f:PV→PV}:∀ ps:List PV,(zCI f ps).length=ps.length
 | []=>rfl
 | p::ps=>by simp [zCI,zC2 ps]
theorem zD1 {f:PV→PV} (hf:∀ p,p.isWay=true→(f p).isTup=false) {p:PV} {ps:List PV} (h:p.mapW f = .tup ps):∃ ps',p = .tup ps'∧ps'.length=ps.length:=by
 cases hp:p.isWay with
 | true=>rw [zF9 hp] at h;have:=hf p hp;rw [h] at this;cases this
 | false =>
  cases p<;>first | (cases hp;done) | (simp [PV.mapW] at h;done) | skip
  simp only [PV.mapW,PV.tup.injEq] at h
  exact ⟨_,rfl,by rw [← h,zC2]⟩
theorem zIj (r:Nat) (pre:zAQ) (p:PV) (hp:p.isWay=true):(lose r pre p).isTup=false:=by
 rcases zGp r pre p with h | ⟨_,h⟩
 ·rw [h];cases p<;>first | rfl | cases hp
 ·rw [h];rfl
theorem St.turn (S:St w0 U Φ0 nt hv a w e Φ rv E L) {w':World} {Φ':Nat→Prop} (hc:Conf w0 U Φ0 w' Φ' rv' E' L') (he:∀ s,s<zAb→E' s=e'.get s) (hr:∀ s,s<zAb→rv' s=rv s) (hE:zXH E E') :
  St w0 U Φ0 nt hv a w' e' Φ' rv' E' L':=by
 have hs:=S.small
 refine ⟨hc,he,S.size,S.small,fun t ht=>?_,fun d ps i hd hp hi=>?_,fun s h1 h2=>?_,S.dfr⟩
 ·rw [hr t (by simp only [zAb];omega)];exact S.tmps t ht
 ·obtain ⟨ps',h1,h2⟩:=hE d ps (by omega) hp
  obtain ⟨h3,vs,h4,h5⟩:=S.parts d ps' i hd h1 (by omega)
  refine ⟨h3,vs,?_,?_⟩
  ·rw [hr d (by simp only [zAb];omega)];exact h4
  ·rw [hr _ (by simp only [zBm,zAb];omega)];exact h5
 ·rw [hr s (by simp only [zAw,zAb] at *;omega)];exact S.hid s h1 h2
theorem zJi {A:Al} (v:Value):Rep w Φ A (zEs v) v []:=by
 have key:∀ cs:List Value,zAX w Φ A (cs.map fun | .int k n=>PV.int k n | .bool b => .bool b | _ => .bad) cs []:=by
  intro cs
  induction cs with
  | nil=>exact ⟨rfl,rfl⟩
  | cons c cs ih =>
   refine ⟨c,cs,[],[],rfl,rfl,?_,ih⟩
   cases c<;>first | exact ⟨rfl,rfl⟩ | rfl
 cases v with
 | slice x n c =>
  cases x with
  | some x=>cases n<;>cases c<;>rfl
  | none=>cases n<;>cases c<;>first | exact ⟨rfl,rfl⟩ | rfl
 | pointer x=>cases x<;>first | exact ⟨rfl,rfl⟩ | rfl
 | map x=>cases x<;>first | exact ⟨rfl,rfl⟩ | rfl
 | agg cs=>exact ⟨cs,rfl,key _⟩
 | _=>first | exact ⟨rfl,rfl⟩ | rfl
theorem zBk (S:St w0 U Φ0 nt hv a w e Φ rv E L) {x:Operand} (hx:zAL nt x=true) {k:PV→PM} (h:(opd x k).run o e=some e') :
  ∃ p,(k p).run o e=some e'∧Rep w Φ (zA1 w rv E) p (a.eval x) []:=by
 have hs:=S.small
 cases x with
 | tmp t =>
  have ht:=zBV hx
  have yf:(t:Nat)<zAb:=Nat.lt_of_lt_of_le ht (Nat.le_trans S.small (by decide))
  refine ⟨_,h,?_⟩
  have:=S.conf.view yf
  rw [S.env t yf] at this
  simp only [Act.eval]
  rw [S.tmps t ht];exact this
 | const v=>exact ⟨_,h,zJi v⟩
 | func f=>exact ⟨_,h,rfl,#[],#[],rfl,⟨rfl,rfl⟩,⟨rfl,rfl⟩⟩
 | global g=>cases h
theorem zHB (S:St w0 U Φ0 nt hv a w e Φ rv E L):∀ {xs:List Operand},(∀ x∈xs,zAL nt x=true)→∀ {k:List PV→PM},(zSy xs k).run o e=some e' →
  ∃ ps,(k ps).run o e=some e'∧zAX w Φ (zA1 w rv E) ps (xs.map a.eval) []
 | [],_,k,h=>⟨[],h,rfl,rfl⟩
 | x::xs,hx,k,h=>by
  obtain ⟨p,h1,h2⟩:=zBk S (hx x (by simp)) h
  obtain ⟨ps,h3,h4⟩:=zHB S (fun y hy=>hx y (by simp [hy])) h1
  exact ⟨p::ps,h3,_,_,[],[],rfl,rfl,h2,h4⟩
def zV5 (g:Nat) (rv rv':Nat→Value) (E E':Nat→PV) (L L':Nat→List Nat):Prop:=∀ s,zAb≤s→s≠g→E' s=E s∧rv' s=rv s∧L' s=L s
theorem St.hold (S:St w0 U Φ0 nt hv a w e Φ rv E L) {g:Nat} (hg:zAb≤g) {p:PV} {v:Value} (hr:Rep w Φ (zA1 w rv E) p v []):St w0 U Φ0 nt hv a w e Φ (upd rv g v) (upd E g p) (upd L g []):=by
 refine S.turn (S.conf.hold hg hr) (fun s hs=>?_) (fun s hs=>zAg (by omega)) fun d ps hd hp=>?_
 ·rw [zAg (by omega)];exact S.env s hs
 ·rw [zAg (by simp only [zAb] at hg;omega)] at hp;exact ⟨ps,hp,rfl⟩
theorem zGE (S:St w0 U Φ0 nt hv a w e Φ rv E L) {x:Operand} (hx:zAL nt x=true) {g:Nat} (hg:zAb≤g) {k:PV→PM} (h:(zO9 x k).run o e=some e') :
  ∃ e1 rv1 E1 L1,(k (E1 g)).run o e1=some e'∧St w0 U Φ0 nt hv a w e1 Φ rv1 E1 L1∧rv1 g=a.eval x∧zV5 g rv rv1 E E1 L L1:=by
 have je:=S.small
 have light:∀ p,(k p).run o e=some e'→Rep w Φ (zA1 w rv E) p (a.eval x) []→∃ e1 rv1 E1 L1,(k (E1 g)).run o e1=some e'∧St w0 U Φ0 nt hv a w e1 Φ rv1 E1 L1∧rv1 g=a.eval x∧zV5 g rv rv1 E E1 L L1:=by
  intro p h hr
  refine ⟨e,_,_,_,?_,S.hold hg hr,zAk,fun s _ hI=>⟨zAg hI,zAg hI,zAg hI⟩⟩
  rw [zAk];exact h
 cases x with
 | tmp t =>
  have ht:=zBV hx
  have yf:(t:Nat)<zAb:=Nat.lt_of_lt_of_le ht (Nat.le_trans S.small (by decide))
  have hX:=S.conf.rep t
  rw [S.env t yf] at hX
  have kI:a.eval (.tmp t)=rv t:=S.tmps t ht
  simp only [zO9,PM.run] at h
  split at h
  ·cases h
  ·rename_i p _
   split at h
   ·rename_i hh
    simp only [PM.run] at h
    refine ⟨_,_,_,_,?_,S.turn (e':=e.set t .bad) (S.conf.take yf hg) (fun s hs=>?_) (fun s hs=>zAg (by omega)) (fun d ps hd hp=>?_),by rw [zAk,kI],fun s h1 h2=>?_⟩
    ·rw [zAk,S.env t yf];exact h
    ·rw [zAg (by omega),Env.get_set]
     by_cases h2:s=t
     ·subst h2;rw [zAk,if_pos rfl]
     ·rw [zAg h2,if_neg h2];exact S.env s hs
    ·rw [zAg (by simp only [zAb] at hg;omega)] at hp
     by_cases h2:d=t
     ·subst h2;rw [zAk] at hp;cases hp
     ·rw [zAg h2] at hp;exact ⟨ps,hp,rfl⟩
    ·have h3:s≠t:=by intro h;subst h;exact absurd yf (Nat.not_lt.2 h1)
     rw [zAg h2,zAg h2,zAg h2,zAg h3,zAg h3];exact ⟨rfl,rfl,rfl⟩
   ·rename_i hh
    simp only [Bool.not_eq_true] at hh
    have hL:=zDg _ _ _ hh hX
    rw [hL] at hX
    exact light _ h (by rw [kI];exact hX)
 | const v=>exact light _ h (zJi v)
 | func f=>exact light _ h ⟨rfl,#[],#[],rfl,⟨rfl,rfl⟩,⟨rfl,rfl⟩⟩
 | global g=>cases h
theorem zRi (S:St w0 U Φ0 nt hv a w e Φ rv E L) {d g:Nat} (uj:d<zAb) (hg:zAb≤g) {k:PM} (h:(lay d (E g) k).run o e=some e') :
  ∃ e1 E1 L1,k.run o e1=some e'∧Conf w0 U Φ0 w Φ (upd rv d (rv g)) E1 L1∧(∀ s,s<zAb→E1 s=e1.get s)∧(∀ s,s≠d→s<zAb→E1 s=E s∨E1 s=(E s).mapW (lose d [])) ∧
   (E1 d=E g∨E1 d=(E g).mapW (lose d []))∧E1 g = .bad∧∀ s,zAb≤s→s≠g→E1 s=E s∨E1 s=(E s).mapW (lose d []):=by
 have vJ:d≠g:=by omega
 simp only [lay] at h
 cases hh:(E g).heavy with
 | true =>
  rw [hh] at h;simp only [cond_true,PM.run] at h
  refine ⟨_,_,_,h,S.conf.lay uj hg,fun s hs=>?_,fun s hs uU => .inr ?_,.inr ?_,zAk,fun s h1 h2 => .inr ?_⟩
  ·rw [zAg (by omega),Env.get_set,Env.get_kill]
   by_cases h2:s=d
   ·subst h2;rw [zAk,if_pos rfl]
   ·rw [zAg h2,if_neg h2,S.env s hs]
  ·rw [zAg (by omega),zAg hs]
  ·rw [zAg (by omega),zAk]
  ·rw [zAg h2,zAg (by omega)]
 | false =>
  rw [hh] at h;simp only [cond_false,PM.run] at h
  have hX:=S.conf.rep g
  rw [zDg _ _ _ hh hX] at hX
  have h1:=S.conf.put (s:=d) hh hX
  have h2:=h1.drop fun s=>s==g
  refine ⟨_,_,_,h,h2,fun s hs=>?_,fun s hs uU => .inl ?_,.inl ?_,by simp,fun s h1 h2 => .inl ?_⟩
  ·rw [Env.get_set]
   have:(s==g)=false:=by simp;omega
   simp only [this,Bool.false_eq_true,if_false]
   by_cases h2:s=d
   ·subst h2;rw [zAk,if_pos rfl]
   ·rw [zAg h2,if_neg h2,S.env s hs]
  ·have:(s==g)=false:=by simp;omega
   simp [this,zAg hs]
  ·have:(d==g)=false:=by simp;omega
   simp [this,zAk]
  ·have:(s==g)=false:=by simp [h2]
   simp [this,zAg (show s≠d by omega)]
theorem zUx (S:St w0 U Φ0 nt hv a w e Φ rv E L) {d g:Nat} (hd:d<zAn) (hg:zAb≤g) {k:PM} (h:(lay d (E g) k).run o e=some e') :
  ∃ e1 E1 L1,k.run o e1=some e'∧Conf w0 U Φ0 w Φ (upd rv d (rv g)) E1 L1∧(∀ s,s<zAb→E1 s=e1.get s)∧(∀ s,s≠d→s<zAb→E1 s=E s∨E1 s=(E s).mapW (lose d [])) ∧
   (E1 d=E g∨E1 d=(E g).mapW (lose d []))∧E1 g = .bad∧∀ s,zAb≤s→s≠g→E1 s=E s∨E1 s=(E s).mapW (lose d []) :=
 zRi S (by simp only [zAn,zAb] at *;omega) hg h
theorem Act.put_tmps (a:Act) {d:Nat} {v:Value} (hd:d<a.tmps.size) (t:Nat):(a.put (some d) v).tmps.getD t undef=if t=d then v else a.tmps.getD t undef:=by
 simp only [Act.put,Array.getD_eq_getD_getElem?,Array.getElem?_setIfInBounds]
 by_cases h:t=d
 ·subst h;simp [hd]
 ·rw [if_neg (Ne.symm h),if_neg h]
theorem zFv (S:St w0 U Φ0 nt hv a w e Φ rv E L) {d:Option Nat} (hd:∀ x,d=some x→x<nt) {g:Nat} (hg:zAb≤g) (h:(put d (E g)).run o e=some e') (hb:∀ s,zAb≤s→s≠g→E s = .bad) :
  Fr w0 U Φ0 nt hv (a.put d (rv g)) w e':=by
 have je:=S.small
 cases d with
 | none =>
  simp only [put,PM.run,Option.some.injEq] at h;subst h
  have h2:=S.conf.drop fun s=>s==g
  refine ⟨_,_,_,_,S.turn h2 (fun s hs=>?_) (fun _ _=>rfl) (fun d ps hd hp=>?_),fun s hs=>?_⟩
  ·have:(s==g)=false:=by simp;omega
   simp only [this,Bool.false_eq_true,if_false];exact S.env s hs
  ·have:(d==g)=false:=by simp only [zAb] at hg;simp;omega
   simp only [this,Bool.false_eq_true,if_false] at hp;exact ⟨ps,hp,rfl⟩
  ·by_cases h3:s=g
   ·subst h3;simp
   ·have:(s==g)=false:=by simp [h3]
    simp only [this,Bool.false_eq_true,if_false];exact hb s hs h3
 | some d =>
  have uN:=hd d rfl
  have hds:d<a.tmps.size:=by rw [S.size];exact uN
  simp only [put] at h
  cases ht:(E g).isTup with
  | true=>rw [ht] at h;cases h
  | false =>
   rw [ht] at h;simp only [cond_false] at h
   obtain ⟨e1,E1,L1,h1,h2,h3,h4,h5,h6,h7⟩:=zUx S (by simp only [zAn];omega) hg h
   simp only [PM.run,Option.some.injEq] at h1;subst h1
   refine ⟨_,_,_,_,⟨h2,h3,by simp only [Act.put,Array.size_setIfInBounds];exact S.size,S.small,fun t gm=>?_,fun d' ps i wV hp hi=>?_,fun s ul uU=>?_,S.dfr⟩,fun s hs=>?_⟩
   ·rw [Act.put_tmps a hds]
    by_cases vm:t=d
    ·subst vm;simp [zAk]
    ·rw [if_neg vm,zAg vm];exact S.tmps t gm
   ·have vJ:d'≠d:=by
     intro hc;subst hc
     rcases h5 with h5 | h5
     ·rw [h5] at hp;rw [hp] at ht;cases ht
     ·rw [h5] at hp
      obtain ⟨ps',h8,_⟩:=zD1 (zIj d' []) hp
      rw [h8] at ht;cases ht
    have:∃ ps',E d' = .tup ps'∧ps'.length=ps.length:=by
     rcases h4 d' vJ (by simp only [zAb];omega) with h8 | h8
     ·exact ⟨ps,by rw [← h8,hp],rfl⟩
     ·rw [h8] at hp;exact zD1 (zIj d []) hp
    obtain ⟨ps',h8,h9⟩:=this
    obtain ⟨jR,vs,vK,h12⟩:=S.parts d' ps' i wV h8 (by omega)
    exact ⟨jR,vs,by rw [zAg vJ];exact vK,by rw [zAg (by simp only [zBm];omega)];exact h12⟩
   ·rw [zAg (by simp only [zAn] at ul;omega)];exact S.hid s ul uU
   ·by_cases h8:s=g
    ·subst h8;exact h6
    ·rcases h7 s hs h8 with h9 | h9
     ·rw [h9];exact hb s hs h8
     ·rw [h9,hb s hs h8];rfl
end
end Go.Eng
namespace Go.Eng
open Go
theorem zBy {α:Type} {x:Option α} {k:α→PM} {o:zAC} {e e':Env} (h:(zIw x k).run o e=some e'):∃ a,x=some a∧(k a).run o e=some e':=by
 cases x with
 | none=>cases h
 | some a=>exact ⟨a,rfl,h⟩
theorem zD4 {p:PV} {k:Nat→PM} {o:zAC} {e e':Env} (h:(zGl p k).run o e=some e'):∃ ik n,p = .int ik n∧0≤n∧(k n.toNat).run o e=some e':=by
 cases p<;>try (cases h;done)
 rename_i ik n
 simp only [zGl] at h
 split at h
 ·exact ⟨ik,n,rfl,‹_›,h⟩
 ·cases h
theorem zDh {c:Prop} [Decidable c] {k:PM} {o:zAC} {e e':Env} (h:(if c then k else .fail).run o e=some e'):c∧k.run o e=some e':=by
 split at h
 ·exact ⟨‹_›,h⟩
 ·cases h
theorem zAF {c:Bool} {k:PM} {o:zAC} {e e':Env} (h:(bif c then k else .fail).run o e=some e'):c=true∧k.run o e=some e':=by
 cases c
 ·cases h
 ·exact ⟨rfl,h⟩
section
variable {P:Program} {w0 w:World} {U Φ0 Φ:Nat→Prop} {nt:Nat} {hv:Hid} {a:Act} {e e':Env} {rv rv':Nat→Value} {E E':Nat→PV} {L L':Nat→List Nat} {o:zAC} {A:Al}
def zBh (E:Nat→PV):Prop:=∀ g,zAb≤g→E g = .bad
theorem zAu (S:St w0 U Φ0 nt hv a w e Φ rv E L) (hb:zBh E) {d:Option Nat} (hd:∀ x,d=some x→x<nt) {p:PV} {v:Value} (h:(put d p).run o e=some e') (hr:Rep w Φ (zA1 w rv E) p v []) :
  Fr w0 U Φ0 nt hv (a.put d v) w e':=by
 have:=zFv (S.hold (Nat.le_refl zAb) hr) hd (Nat.le_refl zAb) (by rw [zAk];exact h) (fun s hs hI=>by rw [zAg hI];exact hb s hs)
 rwa [zAk] at this
theorem zU4 (S:St w0 U Φ0 nt hv a w e Φ rv E L) (hb:zBh E) {d:Option Nat} (hd:∀ x,d=some x→x<nt) {c x y:Operand} (hc:zAL nt c=true) (hx:zAL nt x=true) (hy:zAL nt y=true)
  (h:(zUu d c x y).run o e=some e'):∃ t,a.eval c = .bool t∧Fr w0 U Φ0 nt hv (a.put d (if t then a.eval x else a.eval y)) w e':=by
 obtain ⟨p,h1,h2⟩:=zBk S hc h
 cases p<;>simp only [zUe] at h1<;>try (cases h1;done)
 rename_i t
 refine ⟨t,h2.1,?_⟩
 cases t
 ·obtain ⟨q,h3,h4⟩:=zBk S hy h1;exact zAu S hb hd h3 h4
 ·obtain ⟨q,h3,h4⟩:=zBk S hx h1;exact zAu S hb hd h3 h4
theorem zW5 (S:St w0 U Φ0 nt hv a w e Φ rv E L) (hb:zBh E) {d:Option Nat} (hd:∀ x,d=some x→x<nt) {x:Operand} (hx:zAL nt x=true) (h:(opd x (zXr d)).run o e=some e') :
  (match a.eval x with | .pointer none | .nilIface | .nilFunc | .func (.method _) _ _=>False | _=>True)∧Fr w0 U Φ0 nt hv (a.put d (a.eval x)) w e':=by
 obtain ⟨p,h1,h2⟩:=zBk S hx h
 cases p<;>simp only [zXr] at h1<;>try (cases h1;done)
 case ref q=>refine ⟨?_,zAu S hb hd h1 h2⟩;obtain ⟨_,b,c,u,h3,_⟩:=h2;rw [h3];trivial
 case func=>refine ⟨?_,zAu S hb hd h1 h2⟩;obtain ⟨_,fs,cs,h3,_⟩:=h2;rw [h3];trivial
 case addr=>refine ⟨?_,zAu S hb hd h1 h2⟩;obtain ⟨_,_,b,h3,_⟩:=h2;rw [h3];trivial
 case yld=>refine ⟨?_,zAu S hb hd h1 h2⟩;rw [h2.2];trivial
theorem zXv (S:St w0 U Φ0 nt hv a w e Φ rv E L) (hb:zBh E) {d:Option Nat} (hd:∀ x,d=some x→x<nt) {op:UnOp} {x:Operand} (hx:zAL nt x=true) (h:(opd x (unV d op)).run o e=some e') :
  ∃ v,(Op.unary op (a.eval x)).run P w = .ok v w∧Fr w0 U Φ0 nt hv (a.put d v) w e':=by
 obtain ⟨p,h1,h2⟩:=zBk S hx h
 simp only [unV] at h1
 split at h1
 ·rename_i b;exact ⟨.bool !b,by rw [h2.1];rfl,zAu S hb hd h1 ⟨rfl,rfl⟩⟩
 ·rename_i k n;exact ⟨.int k (k.wrap (0-n)),by rw [h2.1];rfl,zAu S hb hd h1 ⟨rfl,rfl⟩⟩
 ·cases h1
theorem zUV (S:St w0 U Φ0 nt hv a w e Φ rv E L) (hb:zBh E) {d:Option Nat} (hd:∀ x,d=some x→x<nt) {s t:TypeId} (hs:(P.underlying s).isSome=true) {x:Operand} (hx:zAL nt x=true) (h:(opd x (zRQ P d t)).run o e=some e') :
  ∃ v,(convert s t (a.eval x)).run P w = .ok v w∧Fr w0 U Φ0 nt hv (a.put d v) w e':=by
 obtain ⟨p,h1,h2⟩:=zBk S hx h
 simp only [zRQ] at h1
 split at h1
 ·rename_i k k' n ht
  refine ⟨.int k (k.wrap n),?_,zAu S hb hd h1 ⟨rfl,rfl⟩⟩
  obtain ⟨ds,hds⟩:=Option.isSome_iff_exists.1 hs
  rw [h2.1]
  simp only [convert,Sem.run_bind,run_underlying ht,run_underlying hds,Result.andThen_ok]
  rfl
 ·cases h1
theorem zUJ (S:St w0 U Φ0 nt hv a w e Φ rv E L) (hb:zBh E) {d:Option Nat} (hd:∀ x,d=some x→x<nt) {f:FuncId} {fs cs:Array Operand} (hf:∀ x∈fs.toList,zAL nt x=true) (hc:∀ x∈cs.toList,zAL nt x=true)
  (h:(zKv d f fs.toList cs.toList).run o e=some e'):Fr w0 U Φ0 nt hv (a.put d (.func (.func f) (fs.map a.eval) (cs.map a.eval))) w e':=by
 obtain ⟨ps,h1,h2⟩:=zHB S hf h
 obtain ⟨qs,h3,h4⟩:=zHB S hc h1
 exact zAu S hb hd h3 ⟨rfl,_,_,rfl,by simpa using h2,by simpa using h4⟩
theorem zFd {t:TypeId} {sh:Option Nat} (h:shT P t=some sh):∃ i,P.info? t=some i∧(isAgg t).run P w = .ok sh.isSome w∧(∀ n,sh=some n→n=i.size)∧(sh=none→i.size=1):=by
 simp only [shT] at h
 cases hu:P.underlying t with
 | none=>rw [hu] at h;cases h
 | some td =>
  have hr:=run_underlying (w:=w) hu
  cases hi:P.info? t with
  | none=>rw [hu,hi] at h;cases td<;>cases h
  | some i =>
   rw [hu,hi] at h
   refine ⟨i,rfl,?_⟩
   cases td<;>simp only at h<;>first | (cases h;exact ⟨by simp only [isAgg,Sem.run_bind,hr,Result.andThen_ok];rfl,fun n hn=>by cases hn;rfl,fun hn=>by cases hn⟩) | skip
   all_goals
    split at h
    ·rename_i h1
     cases h;exact ⟨by simp only [isAgg,Sem.run_bind,hr,Result.andThen_ok];rfl,(by intro n hn;cases hn),fun _=>h1⟩
    ·cases h
theorem zAV {t:TypeId} {i:TypeInfo} (h:P.info? t=some i):(sizeOf t).run P w = .ok i.size w:=by
 simp [sizeOf,typeInfo,h]
theorem zFo {t:TypeId} {sh:Option Nat} (hs:shT P t=some sh) {p q:PV} {cs:Array Value} {off:Nat} (hp:Rep w Φ A p (.agg cs) []) (h:sub p off sh=some q) :
  ∃ u,(part t cs off).run P w = .ok u w∧Rep w Φ A q u []:=by
 obtain ⟨i,hi,yr,h1,h2⟩:=zFd (w:=w) hs
 cases p<;>try (cases sh<;>cases h;done)
 rename_i ps
 obtain ⟨vs,hv,hr⟩:=hp
 cases hv
 have hZ:=hr.length
 cases sh with
 | some n =>
  simp only [sub] at h
  split at h
  ·rename_i yP
   cases h
   have hn:=h1 n rfl;subst hn
   refine ⟨.agg (cs.extract off (off+i.size)),?_,?_⟩
   ·simp only [part,Sem.run_bind,yr,Result.andThen_ok,Option.isSome_some,if_true,zAV hi];rfl
   ·refine ⟨_,rfl,?_⟩
    rw [Array.toList_extract]
    have:=zBN hr off i.size
    simpa [List.extract] using this
  ·cases h
 | none =>
  simp only [sub] at h
  obtain ⟨u,La,Li,Lb,hu,hL,kh,_,_⟩:=hr.split h
  have hu':cs[off]? = some u:=by simpa using hu
  have:Li=[]:=by
   have:=congrArg List.length hL;simp at this
   exact List.eq_nil_of_length_eq_zero (by omega)
  subst this
  refine ⟨u,?_,kh⟩
  simp only [part,Sem.run_bind,yr,Result.andThen_ok,Option.isSome_none,Bool.false_eq_true,if_false,hu']
  rfl
theorem zNZ {eq:TypeId→PV→PV→Option Bool} {d:Nat} {p q:PV} {xs ys:Array Value} (hp:Rep w Φ A p (.agg xs) []) (hq:Rep w Φ A q (.agg ys) [])
  (hd:∀ t p q b x y,eq t p q=some b→Rep w Φ A p x []→Rep w Φ A q y []→(Op.equalIn d t x y).run P w = .ok b w) :
  ∀ (fs:List Field) (b:Bool),zT9 eq (shT P) p q fs=some b→(Op.eqFields d xs ys fs).run P w = .ok b w
 | [],b,h=>by simp only [zT9,Option.some.injEq] at h;subst h;rfl
 | f :: fs,b,h=>by
  simp only [zT9] at h
  simp only [Op.eqFields]
  split at h
  ·rename_i hn
   rw [if_neg (by simp [hn])]
   exact zNZ hp hq hd fs b h
  ·rename_i hn
   rw [if_pos hn]
   cases hs:shT P f.type with
   | none=>rw [hs] at h;cases h
   | some sh =>
    rw [hs] at h;simp only at h
    split at h
    ·rename_i a1 b1 h1 h2
     obtain ⟨u1,h3,h4⟩:=zFo hs hp h1
     obtain ⟨u2,h5,h6⟩:=zFo hs hq h2
     simp only [Sem.run_bind,h3,h5,Result.andThen_ok]
     cases he:eq f.type a1 b1 with
     | none=>rw [he] at h;cases h
     | some r =>
      rw [hd _ _ _ _ _ _ he h4 h6]
      rw [he] at h
      simp only [Result.andThen_ok]
      cases r with
      | true =>
       simp only [Bool.not_true,Bool.false_eq_true,if_false]
       exact zNZ hp hq hd fs b h
      | false =>
       simp only [Option.some.injEq] at h;subst h
       simp
    ·cases h
theorem zQZ {eq:PV→PV→Option Bool} {d:Nat} {e:TypeId} {sh:Option Nat} {i:TypeInfo} (hs:shT P e=some sh) (hi:P.info? e=some i) {p q:PV} {xs ys:Array Value} (hp:Rep w Φ A p (.agg xs) []) (hq:Rep w Φ A q (.agg ys) [])
  (hd:∀ p q b x y,eq p q=some b→Rep w Φ A p x []→Rep w Φ A q y []→(Op.equalIn d e x y).run P w = .ok b w) :
  ∀ (n k:Nat) (b:Bool),zUs eq sh i.size p q k n=some b →
   ((forIn (List.range' k n 1) ((none,()):Option Bool×Unit) fun i' r=>do
    let a ← part e xs (i'*i.size)
    let c ← part e ys (i'*i.size)
    if !(← Op.equalIn d e a c) then pure (.done (some false,())) else pure (.yield (none,()))):Sem _).run P w = .ok (if b then (none,()) else (some false,())) w
 | 0,k,b,h=>by simp only [zUs,Option.some.injEq] at h;subst h;simp
 | n + 1,k,b,h=>by
  simp only [zUs] at h
  simp only [List.range'_succ,List.forIn_cons,Sem.run_bind]
  split at h
  ·rename_i a1 b1 h1 h2
   obtain ⟨u1,h3,h4⟩:=zFo hs hp h1
   obtain ⟨u2,h5,h6⟩:=zFo hs hq h2
   simp only [h3,h5,Result.andThen_ok]
   cases he:eq a1 b1 with
   | none=>rw [he] at h;cases h
   | some r =>
    rw [hd _ _ _ _ _ he h4 h6]
    rw [he] at h
    simp only [Result.andThen_ok]
    cases r with
    | true =>
     simp only [Bool.not_true,Bool.false_eq_true,if_false,Sem.run_pure,Result.andThen_ok]
     exact zQZ hs hi hp hq hd n (k+1) b h
    | false =>
     simp only [Option.some.injEq] at h;subst h
     simp
  ·cases h
theorem zKi:∀ (n:Nat) (t:TypeId) (p q:PV) (b:Bool) (x y:Value) (d:Nat),n≤d→eqT P n t p q=some b→Rep w Φ A p x []→Rep w Φ A q y []→(Op.equalIn d t x y).run P w = .ok b w
 | 0,t,p,q,b,x,y,d,hd,h,hp,hq=>by cases h
 | n+1,t,p,q,b,x,y,0,hd,h,hp,hq=>by omega
 | n + 1,t,p,q,b,x,y,d+1,hd,h,hp,hq=>by
  have yP:n≤d:=by omega
  simp only [eqT] at h
  split at h
  ·rename_i k0 k a1 k' b1 ht
   rw [hp.1,hq.1]
   split at h
   ·rename_i hk;subst hk
    cases h;exact run_equalIn_int w d t k k0 a1 b1 ht
   ·cases h
  ·rename_i a1 b1 ht
   rw [hp.1,hq.1];cases h
   exact run_equalIn_bool' w d t a1 b1 ht
  ·rename_i el ht
   rw [hp.1,hq.1];cases h
   simp [Op.equalIn,run_underlying ht]
  ·rename_i fs xs ys ht
   cases yK:P.stoodInHeld t with
   | true=>rw [yK] at h;cases h
   | false =>
    rw [yK] at h;simp only [cond_false] at h
    obtain ⟨vs,rfl,jk⟩:=hp
    obtain ⟨us,rfl,jh⟩:=hq
    have wm:P.fieldsOf t=fs:=by simp [Program.fieldsOf,ht]
    rw [run_equalIn_struct w d t vs us (by rw [wm];exact ht) yK,wm]
    exact zNZ (p := .agg xs) (q := .agg ys) ⟨vs,rfl,jk⟩ ⟨us,rfl,jh⟩ (fun t p q b x y he h1 h2=>zKi n t p q b x y d yP he h1 h2) fs.toList b h
  ·rename_i len el xs ys ht
   split at h
   ·rename_i sz sh yF j8
    obtain ⟨vs,rfl,jk⟩:=hp
    obtain ⟨us,rfl,jh⟩:=hq
    obtain ⟨i,hi,_⟩:=zFd (w:=w) j8
    have qv:i.size=sz:=by simp only [szT,hi,Option.map_some,Option.some.injEq] at yF;exact yF
    subst qv
    have:=zQZ (p := .agg xs) (q := .agg ys) j8 hi ⟨vs,rfl,jk⟩ ⟨us,rfl,jh⟩ (fun p q b x y he h1 h2=>zKi n el p q b x y d yP he h1 h2) len 0 b h
    simp only [Op.equalIn,Sem.run_bind,run_underlying ht,Result.andThen_ok,zAV hi,Std.Legacy.Range.forIn_eq_forIn_range',Std.Legacy.Range.size,Nat.sub_zero,Nat.add_sub_cancel,Nat.div_one]
    rw [this]
    cases b<;>simp
   ·cases h
  ·cases h
theorem zSP {n:Nat} {t:TypeId} {p q:PV} {b:Bool} (h:eqT P n t p q=some b) (ha:p.isAgg=false):(∃ k n k' m,p = .int k n∧q = .int k' m)∨(∃ b,p = .bool b)∨p = .nilp:=by
 cases n with
 | zero=>cases h
 | succ n =>
  simp only [eqT] at h
  split at h
  ·exact .inl ⟨_,_,_,_,rfl,rfl⟩
  ·exact .inr (.inl ⟨_,rfl⟩)
  ·exact .inr (.inr rfl)
  ·cases ha
  ·cases ha
  ·cases h
theorem zSY {t:TypeId} {p q:PV} (hn:∀ z,q ≠ .nils z) (ha:∀ ys,q ≠ .agg ys):eqV P t p q=bif p.isAgg then none else eqT P 20 t p q:=by
 cases q<;>first | rfl | exact absurd rfl (hn _) | exact absurd rfl (ha _)
def zZp:Value→Bool
 | .bool _ | .pointer _ | .slice .. | .agg _=>true
 | _=>false
theorem zQF {t:TypeId} {x y:Value} {b:Bool} (hx:zZp x=true) (h:(Op.equal t x y).run P w = .ok b w):(binOp .eql t x y).run P w = .ok (.bool b) w∧(binOp .neq t x y).run P w = .ok (.bool !b) w:=by
 have h1:binOp .eql t x y=(do pure (.bool (← Op.equal t x y))):=by cases x<;>first | (cases hx;done) | rfl
 have h2:binOp .neq t x y=(do pure (.bool (!(← Op.equal t x y)))):=by cases x<;>first | (cases hx;done) | rfl
 rw [h1,h2]
 simp only [Sem.run_bind,h,Result.andThen_ok]
 exact ⟨rfl,rfl⟩
theorem zTG {t:TypeId} {p:PV} {z:Nat} {b:Bool} {x:Value} (h:eqV P t p (.nils z)=some b) (hA:∀ a v,a.isWay=true→A a v→∀ r pre z lo n,a = .bor r pre z lo n→∃ b c,v = .slice b n c∧n≤c∧(b=none→c=0))
  (hp:Rep w Φ A p x []):(∃ a n c,x = .slice a n c)∧(Op.equal t x (.slice none 0 0)).run P w = .ok b w:=by
 cases ht:P.underlying t with
 | none=>simp [eqV,ht] at h
 | some td =>
 by_cases jS:∃ e,td = .slice e
 ·obtain ⟨e,rfl⟩:=jS
  by_cases gp:∃ z',p = .nils z'
  ·obtain ⟨z',rfl⟩:=gp
   simp only [eqV,ht,Option.some.injEq] at h
   subst h
   rw [hp.1]
   exact ⟨⟨_,_,_,rfl⟩,run_equal_slice_nil w t e none 0 0 ht⟩
  have hh:(bif zEX p then some false else none)=some b:=by
   rw [← h]
   cases p<;>first | (simp only [eqV,ht];done) | exact absurd ⟨_,rfl⟩ gp
  have key:∀ a n c,x = .slice (some a) n c→b=false→(∃ a n c,x = .slice a n c)∧(Op.equal t x (.slice none 0 0)).run P w = .ok b w:=by
   intro a n c hx hb
   subst hx;subst hb
   exact ⟨⟨_,_,_,rfl⟩,run_equal_slice_nil w t e (some a) n c ht⟩
  cases jc:zEX p with
  | false=>rw [jc] at hh;cases hh
  | true =>
   rw [jc] at hh;simp only [cond_true,Option.some.injEq] at hh
   cases p<;>simp only [zEX] at jc<;>try (cases jc;done)
   case nn =>
    obtain ⟨_,a,n,h1⟩:=hp
    exact key a 0 n h1 hh.symm
   case sl xs =>
    cases xs with
    | nil=>cases jc
    | cons x0 xs =>
     obtain ⟨_,⟨h1,_⟩ | ⟨a,n,c,us,sz,h1,_⟩⟩:=hp
     ·cases h1
     ·exact key a _ n h1 hh.symm
   case own sz xs =>
    cases xs with
    | nil=>cases jc
    | cons x0 xs =>
     obtain ⟨h1,_⟩ | ⟨a,n,c,us,L',h0,_⟩:=hp
     ·cases h1
     ·cases h0
   case bor r pre z lo n =>
    cases n with
    | zero=>cases jc
    | succ n =>
     obtain ⟨b',c,h1,h2,h3⟩:=hA _ _ rfl hp.2 r pre z lo (n+1) rfl
     cases b' with
     | none=>have:=h3 rfl;omega
     | some a=>exact key a _ c h1 hh.symm
 ·cases td<;>first | exact absurd ⟨_,rfl⟩ jS | simp [eqV,ht] at h
theorem zT5 {t:TypeId} {p q:PV} {b:Bool} {x y:Value} (h:eqV P t p q=some b) (hA:∀ a v,a.isWay=true→A a v→∀ r pre z lo n,a = .bor r pre z lo n→∃ b c,v = .slice b n c∧n≤c∧(b=none→c=0))
  (hp:Rep w Φ A p x []) (hq:Rep w Φ A q y []) (hni:∀ k n k' m,p = .int k n→q = .int k' m→False) (op:BinOp) (xo yo:Operand) :
  (eqGuard op t xo yo x y).run P w = .ok () w∧(Op.equal t x y).run P w = .ok b w∧zZp x=true:=by
 by_cases hn:∃ z,q = .nils z
 ·obtain ⟨z,rfl⟩:=hn
  have hy:y = .slice none 0 0:=hq.1
  subst hy
  obtain ⟨⟨a,n,c,rfl⟩,h2⟩:=zTG h hA hp
  exact ⟨by rw [eqGuard_at_slice];rfl,h2,rfl⟩
 ·by_cases ha:∃ ys,q = .agg ys
  ·obtain ⟨ys,rfl⟩:=ha
   simp only [eqV] at h
   split at h
   ·rename_i xs
    cases hg:P.eqGuardType P.depth t with
    | true=>rw [hg] at h;cases h
    | false =>
     rw [hg] at h;simp only [cond_false] at h
     have:=zKi 20 t _ _ b x y 10000 (by decide) h hp hq
     obtain ⟨vs,rfl,_⟩:=hp
     obtain ⟨us,rfl,_⟩:=hq
     exact ⟨run_eqGuard_agg w op t xo yo vs us hg,this,rfl⟩
   ·cases h
  ·rw [zSY (fun z hz=>hn ⟨z,hz⟩) (fun ys hy=>ha ⟨ys,hy⟩)] at h
   cases vn:p.isAgg with
   | true=>rw [vn] at h;cases h
   | false =>
    rw [vn] at h;simp only [cond_false] at h
    have h2:=zKi 20 t _ _ b x y 10000 (by decide) h hp hq
    rcases zSP h vn with ⟨k,n,k',m,h3,h4⟩ | ⟨b',h3⟩ | h3
    ·exact absurd h4 fun h4=>hni k n k' m h3 h4
    ·subst h3;have hx:x = .bool b':=hp.1
     subst hx;exact ⟨by rw [eqGuard_at_bool];rfl,h2,rfl⟩
    ·subst h3;have hx:x = .pointer none:=hp.1
     subst hx;exact ⟨by rw [eqGuard_at_pointer];rfl,h2,rfl⟩
theorem zUv:∀ a v,a.isWay=true→zA1 w rv E a v→∀ r pre z lo n,a = .bor r pre z lo n→∃ b c,v = .slice b n c∧n≤c∧(b=none→c=0):=by
 intro a v _ h r pre z lo n ha
 subst ha
 obtain ⟨_,⟨b,c,h1,h2,h3,_⟩,_⟩:=h
 exact ⟨b,c,h1,h2,h3⟩
theorem zTv {op:BinOp} {t:TypeId} {k:IntKind} {x y:Int} {r:PV} (h:zUZ op k x y=some r) (hs:op ≠ .shl∧op ≠ .shr):∃ v,(binOp op t (.int k x) (.int k y)).run P w = .ok v w∧Rep w Φ A r v []:=by
  cases op<;>simp only [zUZ] at h<;>try (cases h;done)
  case quo => split at h
              · cases h
              · rename_i hy;cases h;exact ⟨.int k (k.wrap (x.tdiv y)),by simp [binOp,Op.intDiv,hy],rfl,rfl⟩
  case rem => split at h
              · cases h
              · rename_i hy;cases h;exact ⟨.int k (x.tmod y),by simp [binOp,Op.intDiv,hy],rfl,rfl⟩
  all_goals
    simp only [Option.some.injEq] at h
    subst h
    first
    | exact ⟨_,by simp [binOp,Op.intArith];rfl,rfl,rfl⟩
    | exact ⟨_,by simp [binOp,Op.intCmp];rfl,rfl,rfl⟩
    | exact ⟨_,by simp [binOp,Op.intBits];rfl,rfl,rfl⟩
theorem zWC (S:St w0 U Φ0 nt hv a w e Φ rv E L) (hb:zBh E) {d:Option Nat} (hd:∀ x,d=some x→x<nt) {op:BinOp} {t:TypeId} {x y:Operand} (hx:zAL nt x=true) (hy:zAL nt y=true) (h:(zTB P d op t x y).run o e=some e') :
  ∃ v,(do eqGuard op t x y (a.eval x) (a.eval y);binOp op t (a.eval x) (a.eval y)).run P w = .ok v w∧Fr w0 U Φ0 nt hv (a.put d v) w e':=by
 obtain ⟨p,h1,hp⟩:=zBk S hx h
 obtain ⟨q,h2,hq⟩:=zBk S hy h1
 obtain ⟨r,h3,h4⟩:=zBy h2
 have fin:∀ v,(eqGuard op t x y (a.eval x) (a.eval y)).run P w = .ok () w→(binOp op t (a.eval x) (a.eval y)).run P w = .ok v w→Rep w Φ (zA1 w rv E) r v []→∃ v,(do eqGuard op t x y (a.eval x) (a.eval y);binOp op t (a.eval x) (a.eval y)).run P w = .ok v w∧Fr w0 U Φ0 nt hv (a.put d v) w e':=by
  intro v g1 g2 g3
  refine ⟨v,?_,zAu S hb hd h4 g3⟩
  simp only [Sem.run_bind,g1,Result.andThen_ok];exact g2
 simp only [zJT] at h3
 split at h3
 ·rename_i k n _ m
  split at h3
  ·cases h3
  ·rename_i hm;cases h3
   refine fin (.int k (k.wrap (n*2 ^ (min m.toNat k.bits)))) ?_ ?_ ⟨rfl,rfl⟩
   ·rw [hp.1,eqGuard_at_int];rfl
   ·rw [hp.1,hq.1];simp [binOp,Op.shift,hm]
 ·rename_i k n _ m
  split at h3
  ·cases h3
  ·rename_i hm;cases h3
   refine fin (.int k (n.fdiv (2 ^ (min m.toNat k.bits)))) ?_ ?_ ⟨rfl,rfl⟩
   ·rw [hp.1,eqGuard_at_int];rfl
   ·rw [hp.1,hq.1];simp [binOp,Op.shift,hm]
 ·rename_i k n k' m hns1 hns2
  split at h3
  ·rename_i hk;subst hk
   obtain ⟨v,g1,g2⟩:=zTv (P:=P) (w:=w) (Φ:=Φ) (A:=zA1 w rv E) (t:=t) h3 ⟨fun hc=>hns1 hc,fun hc=>hns2 hc⟩
   refine fin v ?_ ?_ g2
   ·rw [hp.1,eqGuard_at_int];rfl
   ·rw [hp.1,hq.1];exact g1
  ·cases h3
 ·rename_i wW
  simp only [Option.map_eq_some_iff] at h3
  obtain ⟨b,h5,rfl⟩:=h3
  obtain ⟨g1,g2,g3⟩:=zT5 h5 zUv hp hq (fun k n k' m h1 h2=>wW k n k' m h1 h2) .eql x y
  exact fin (.bool b) g1 (zQF g3 g2).1 ⟨rfl,rfl⟩
 ·rename_i wW
  simp only [Option.map_eq_some_iff] at h3
  obtain ⟨b,h5,rfl⟩:=h3
  obtain ⟨g1,g2,g3⟩:=zT5 h5 zUv hp hq (fun k n k' m h1 h2=>wW k n k' m h1 h2) .neq x y
  exact fin (.bool !b) g1 (zQF g3 g2).2 ⟨rfl,rfl⟩
 ·cases h3
theorem zSX (S:St w0 U Φ0 nt hv a w e Φ rv E L) (hb:zBh E) {d:Option Nat} (hd:∀ x,d=some x→x<nt) {t:TypeId} {x:Operand} {i:Nat} (hx:zAL nt x=true) (h:(zSk P d t x i).run o e=some e') :
  ∃ v,(Instr.field t (a.eval x) i).run P w = .ok v w∧Fr w0 U Φ0 nt hv (a.put d v) w e':=by
 obtain ⟨p,h1,hp⟩:=zBk S hx h
 obtain ⟨f,h2,h3⟩:=zBy h1
 obtain ⟨sh,h4,h5⟩:=zBy h3
 obtain ⟨q,h6,h7⟩:=zBy h5
 have vn:∃ cs,p = .agg cs:=by cases p<;>first | exact ⟨_,rfl⟩ | (cases sh<;>cases h6)
 obtain ⟨cs,rfl⟩:=vn
 obtain ⟨vs,hv,hr⟩:=hp
 obtain ⟨u,h8,h9⟩:=zFo (P:=P) h4 (p := .agg cs) ⟨vs,rfl,hr⟩ h6
 refine ⟨u,?_,zAu S hb hd h7 h9⟩
 simp only [zK4] at h2
 cases ht:P.underlying t with
 | none=>rw [ht] at h2;cases h2
 | some td =>
  rw [ht] at h2
  cases td<;>simp only at h2<;>try (cases h2;done)
  rw [hv]
  simp only [Instr.field,Sem.run_bind,run_underlying ht,Result.andThen_ok,h2,asAgg,Sem.run_pure]
  exact h8
theorem zTY (S:St w0 U Φ0 nt hv a w e Φ rv E L) (hb:zBh E) {d:Option Nat} (hd:∀ x,d=some x→x<nt) {t:TypeId} {x i:Operand} (hx:zAL nt x=true) (hi:zAL nt i=true) (h:(zKO P d t x i).run o e=some e') :
  ∃ v,(Instr.index t (a.eval x) (a.eval i)).run P w = .ok v w∧Fr w0 U Φ0 nt hv (a.put d v) w e':=by
 obtain ⟨p,h1,hp⟩:=zBk S hx h
 obtain ⟨pi,h2,hpi⟩:=zBk S hi h1
 obtain ⟨ik,n,rfl,hn,h3⟩:=zD4 h2
 split at h3
 ·rename_i len el ht
  split at h3
  ·rename_i s sh hs j8
   obtain ⟨yD,h4⟩:=zDh h3
   obtain ⟨q,h5,h6⟩:=zBy h4
   have vn:∃ cs,p = .agg cs:=by cases p<;>first | exact ⟨_,rfl⟩ | (cases sh<;>cases h5)
   obtain ⟨cs,rfl⟩:=vn
   obtain ⟨vs,hv,hr⟩:=hp
   obtain ⟨u,h8,h9⟩:=zFo (P:=P) j8 (p := .agg cs) ⟨vs,rfl,hr⟩ h5
   refine ⟨u,?_,zAu S hb hd h6 h9⟩
   obtain ⟨ti,jN,_⟩:=zFd (w:=w) j8
   have yF:ti.size=s:=by simp only [szT,jN,Option.map_some,Option.some.injEq] at hs;exact hs
   subst yF
   rw [hv,hpi.1]
   simp only [Instr.index,Sem.run_bind,asIntOf,Sem.run_pure,Result.andThen_ok,run_underlying ht,zAV jN]
   rw [if_pos ⟨hn,by omega⟩]
   simp only [Sem.run_bind,zAV jN,Result.andThen_ok]
   exact h8
  ·cases h3
 ·cases h3
theorem zQP {p q:PV} {off:Nat} {sh:Option Nat} {v:Value} (h:zCd p off sh=some q) (hp:Rep w Φ (zA1 w rv E) p v []) :
  ∃ b,v = .pointer (some b)∧b.spot=none∧sh≠some 0∧Rep w Φ (zA1 w rv E) q (.pointer (some (zAr b off))) []:=by
 have h0:sh≠some 0:=by intro hc;subst hc;cases h
 replace h:zO1 p off sh=some q:=by
  cases sh with
  | none=>exact h
  | some n=>cases n with
   | zero=>exact absurd rfl h0
   | succ n=>exact h
 cases p<;>simp only [zO1] at h<;>try (cases h;done)
 case ref q0 =>
  obtain ⟨_,b,c,u,rfl,y4,hΦ,yC,jD,⟨yF,jb⟩,hr⟩:=hp
  refine ⟨b,rfl,y4,h0,?_⟩
  cases hs:sub q0 off sh with
  | none=>rw [hs] at h;cases h
  | some x =>
   rw [hs] at h;simp only at h
   have qM:∀ n,off+n≤q0.cells.length→seg c (b.off+off) n=(u.cells.toList.drop off).take n:=by
    intro n hn
    rw [← jD]
    apply List.ext_getElem?
    intro k
    simp only [seg,List.getElem?_take,List.getElem?_drop]
    by_cases hk:k<n
    ·rw [if_pos hk,if_pos hk,if_pos (by omega),Nat.add_assoc]
    ·rw [if_neg hk,if_neg hk]
   cases q0<;>try (cases sh<;>cases hs;done)
   rename_i cs
   obtain ⟨vs,rfl,hr⟩:=hr
   have hZ:=hr.length
   cases sh with
   | some n =>
    simp only [sub] at hs
    split at hs
    ·rename_i yP
     cases hs
     simp only [Option.isSome_some,Bool.true_or,cond_true,Option.some.injEq] at h
     subst h
     refine ⟨rfl,zAr b off,c,.agg ((vs.toList.drop off).take n).toArray,rfl,rfl,hΦ,yC,?_,⟨?_,rfl⟩,_,rfl,by simpa using zBN hr off n⟩
     ·simp only [zAr,PV.cells,Value.cells]
      rw [show ((cs.drop off).take n).length=n by simp;omega]
      exact qM n yP
     ·simp only [Value.cells,PV.cells];simp at hZ ⊢;omega
    ·cases hs
   | none =>
    simp only [sub] at hs
    obtain ⟨u2,La,Li,Lb,hu,hL,kh,_,_⟩:=hr.split hs
    have:Li=[]:=by
     have:=congrArg List.length hL;simp at this
     exact List.eq_nil_of_length_eq_zero (by omega)
    subst this
    simp only [Option.isSome_none,Bool.false_or] at h
    cases j9:x.oneCell with
    | false=>rw [j9] at h;cases h
    | true =>
     rw [j9] at h;simp only [cond_true,Option.some.injEq] at h;subst h
     have h1:=zBB (zB2 (fun a v hw h=>zCZ hw h) kh j9)
     have h2:=zBe j9
     have yD:off<cs.length:=(List.getElem?_eq_some_iff.1 hs).1
     refine ⟨rfl,zAr b off,c,u2,rfl,rfl,hΦ,yC,?_,⟨by rw [h1.1,h2.1];rfl,by rw [h1.2,h2.2]⟩,kh⟩
     rw [h1.1,h2.1]
     have:=qM 1 (by simp only [PV.cells];omega)
     simp only [zAr,List.length_singleton]
     rw [this]
     simp only [Value.cells]
     have wn:off<vs.toList.length:=by omega
     rw [List.drop_eq_getElem_cons wn]
     rw [List.getElem?_eq_getElem wn] at hu
     simp only [Option.some.injEq] at hu
     simp [← hu]
 case addr r pre i c s =>
  cases s with
  | none=>cases h
  | some s =>
   simp only [Option.some.injEq] at h;subst h
   obtain ⟨_,hg,b,rfl,y4,hn⟩:=hp
   refine ⟨b,rfl,y4,h0,rfl,hg,zAr b off,rfl,rfl,fun nv np hf a' ha=>?_⟩
   have key:∃ a0,zA2 nv np i c=some a0∧a'=zAr a0 off:=by
    cases np<;>try (simp [zA2] at ha;done)
    ·cases nv with
     | slice x _ _ =>
      cases x with
      | none=>cases ha
      | some x=>simp only [zA2] at ha ⊢;cases ha;exact ⟨_,rfl,by simp [zAr,Nat.add_assoc]⟩
     | pointer x=>cases x<;>cases ha
     | _=>cases ha
    ·cases nv with
     | pointer x =>
      cases x with
      | none=>cases i<;>cases ha
      | some x=>cases i<;>simp only [zA2] at ha ⊢ <;> cases ha;exact ⟨_,rfl,by simp [zAr,Nat.add_assoc]⟩
     | slice x _ _=>cases x<;>cases ha
     | _=>cases ha
   obtain ⟨a0,h1,h2⟩:=key
   rw [h2,hn nv np hf a0 h1]
theorem zMi (S:St w0 U Φ0 nt hv a w e Φ rv E L) (hb:zBh E) {d:Option Nat} (hd:∀ x,d=some x→x<nt) {t:TypeId} {x:Operand} {i:Nat} (hx:zAL nt x=true) (h:(zIA P d t x i).run o e=some e') :
  ∃ v,(Instr.fieldAt t (a.eval x) i).run P w = .ok v w∧Fr w0 U Φ0 nt hv (a.put d v) w e':=by
 obtain ⟨p,h1,hp⟩:=zBk S hx h
 obtain ⟨f,h2,h3⟩:=zBy h1
 obtain ⟨sh,h4,h5⟩:=zBy h3
 obtain ⟨q,h6,h7⟩:=zBy h5
 obtain ⟨b,h8,h9,jR,vK⟩:=zQP h6 hp
 obtain ⟨ti,jN,_,ul,uU⟩:=zFd (w:=w) h4
 refine ⟨_,?_,zAu S hb hd h7 vK⟩
 have yF:ti.size≠0:=by
  cases sh with
  | none=>rw [uU rfl];decide
  | some n=>rw [← ul n rfl];intro hc;subst hc;exact jR rfl
 simp only [zK4] at h2
 cases ht:P.underlying t with
 | none=>rw [ht] at h2;cases h2
 | some td =>
  rw [ht] at h2
  cases td<;>simp only at h2<;>try (cases h2;done)
  rw [h8]
  simp only [Instr.fieldAt,Sem.run_bind,run_underlying ht,Result.andThen_ok,h2,Instr.sureAddr,Sem.run_pure,fieldPlace,zAV jN,yF,if_false,Sem.run_ite]
  rw [zBM h9]
theorem zCe {t:TypeId} {n:Nat} (h:szT P t=some n):∃ i,P.info? t=some i∧i.size=n:=by
 simp only [szT] at h
 cases hi:P.info? t with
 | none=>rw [hi] at h;cases h
 | some i=>rw [hi] at h;simp only [Option.map_some,Option.some.injEq] at h;exact ⟨i,rfl,h⟩
theorem zTS {el:TypeId} {p q:PV} {i:Nat} {v:Value} {d:Option Nat} {k:PV→PM} (h:(zQq P d el p i).run o e=some e') (hp:Rep w Φ (zA1 w rv E) p v []) :
  ∃ ti b n c q,P.info? el=some ti∧v = .slice (some b) n c∧i<n∧(put d q).run o e=some e'∧Rep w Φ (zA1 w rv E) q (.pointer (some (b.add (i*ti.size)))) []:=by
 cases p<;>simp only [zQq] at h<;>try (cases h;done)
 case sl xs =>
  obtain ⟨x,hx,h1⟩:=zBy h
  obtain ⟨hs,h2⟩:=zDh h1
  obtain ⟨ti,jN,yF⟩:=zCe hs
  obtain ⟨_,⟨h3,_⟩ | ⟨b,n,c,us,sz,rfl,y4,yP,hΦ,yC,jY,⟨kd,wd⟩,jD,hr⟩⟩:=hp
  ·subst h3;simp at hx
  ·have yD:i<xs.length:=(List.getElem?_eq_some_iff.1 hx).1
   obtain ⟨u,La,Li,Lb,hu,hL,kh,_,_⟩:=hr.split hx
   have uW:Li=[]:=by
    have:=congrArg List.length hL;simp at this
    exact List.eq_nil_of_length_eq_zero (by omega)
   subst uW
   have vZ:=jY x (List.mem_of_getElem? hx)
   have jC:=kd u (List.mem_of_getElem? hu)
   have hg:zCa u=x.isAgg:=by
    have h1:(us.map zCa)[i]? = some (zCa u):=by simp [hu]
    have h2:(xs.map PV.isAgg)[i]? = some x.isAgg:=by simp [hx]
    rw [wd] at h1;rw [h1] at h2;simpa using h2
   refine ⟨ti,b,xs.length,n,.ref x,jN,rfl,yD,h2,rfl,zAr b (i*sz),c,u,?_,rfl,hΦ,yC,?_,⟨by omega,hg⟩,kh.mono zDe.refl (fun _ _ _ h=>h.elim) (by simp)⟩
   ·rw [zBM y4,yF,vZ]
   ·rw [vZ]
    refine zGD (by simpa using jC) fun k y hy=>?_
    have hf:=zDY kd hu hy
    rw [← jD] at hf
    have:=zC7 hf
    simp only [zAr,Nat.add_assoc];exact this
 case bor r pre z lo n =>
  cases j8:shT P el with
  | none=>rw [j8] at h;cases h
  | some sh =>
   rw [j8] at h;simp only at h
   obtain ⟨⟨yD,hs⟩,h2⟩:=zDh h
   obtain ⟨ti,jN,yF⟩:=zCe hs
   obtain ⟨_,hg,⟨x,cap,rfl,yR,yZ,y5⟩,hn⟩:=hp
   cases x with
   | none=>have:=yZ rfl;omega
   | some b =>
    refine ⟨ti,b,n,cap,_,jN,rfl,yD,h2,rfl,hg,b.add (i*ti.size),rfl,by rw [zBM (y5 b rfl)];rfl,fun nv np hf a' ha=>?_⟩
    have hh:np.heavy0=true:=by cases np<;>first | rfl | (simp [zA2] at ha;done)
    obtain ⟨sz,xs,h3,h4,h5⟩:=hn nv np hf hh
    subst h3;subst h4
    cases nv<;>simp only [zBH] at h5
    rename_i y l c
    cases y with
    | none=>cases ha
    | some y =>
     simp only [zBH,Value.slice.injEq,Option.some.injEq] at h5
     simp only [zA2,Option.some.injEq] at ha
     rw [← ha,zBM (y5 b rfl),h5.1.1,yF]
     simp [zAr,Nat.add_mul,Nat.add_assoc]
 case bsl r pre j c0 s ag n =>
  obtain ⟨⟨yD,hs⟩,h2⟩:=zDh h
  obtain ⟨ti,jN,yF⟩:=zCe hs
  obtain ⟨_,hg,b,cap,rfl,yR,y5,hn⟩:=hp
  refine ⟨ti,b,n,cap,_,jN,rfl,yD,h2,rfl,hg,b.add (i*ti.size),rfl,by rw [zBM y5];rfl,fun nv np hf a' ha=>?_⟩
  have key:∃ a0,zA2 nv np j c0=some a0∧a'=zAr a0 (i*s):=by
   cases np<;>try (simp [zA2] at ha;done)
   ·cases nv with
    | slice x _ _ =>
     cases x with
     | none=>cases ha
     | some x=>simp only [zA2] at ha ⊢;cases ha;exact ⟨_,rfl,by simp [zAr,Nat.add_assoc]⟩
    | pointer x=>cases x<;>cases ha
    | _=>cases ha
   ·cases nv with
    | pointer x =>
     cases x with
     | none=>cases j<;>cases ha
     | some x=>cases j<;>simp only [zA2] at ha ⊢ <;> cases ha;exact ⟨_,rfl,by simp [zAr,Nat.add_assoc]⟩
    | slice x _ _=>cases x<;>cases ha
    | _=>cases ha
  obtain ⟨a0,h3,h4⟩:=key
  rw [h4,zBM y5,hn nv np hf a0 h3,yF]
theorem zL9 (S:St w0 U Φ0 nt hv a w e Φ rv E L) (hb:zBh E) {d:Option Nat} (hd:∀ x,d=some x→x<nt) {t:TypeId} {x i:Operand} (hx:zAL nt x=true) (hi:zAL nt i=true) (h:(zFh P d t x i).run o e=some e') :
  ∃ v,(Instr.indexAt t (a.eval x) (a.eval i)).run P w = .ok v w∧Fr w0 U Φ0 nt hv (a.put d v) w e':=by
 obtain ⟨p,h1,hp⟩:=zBk S hx h
 obtain ⟨pi,h2,hpi⟩:=zBk S hi h1
 obtain ⟨ik,n,rfl,hn,h3⟩:=zD4 h2
 rw [hpi.1]
 split at h3
 ·rename_i len el ht
  simp only [zOh] at h3
  split at h3
  ·rename_i s sh hs j8
   obtain ⟨yD,h4⟩:=zDh h3
   obtain ⟨q,h5,h6⟩:=zBy h4
   obtain ⟨b,h7,h8,h9,jR⟩:=zQP h5 hp
   obtain ⟨ti,jN,yF⟩:=zCe hs
   refine ⟨_,?_,zAu S hb hd h6 jR⟩
   rw [h7]
   simp only [Instr.indexAt,Sem.run_bind,asIntOf,Sem.run_pure,Result.andThen_ok,run_underlying ht,Instr.sureAddr]
   rw [if_pos ⟨hn,by omega⟩]
   simp only [Sem.run_bind,zAV jN,Result.andThen_ok,Sem.run_pure]
   rw [zBM h8,yF]
  ·cases h3
 ·rename_i el ht
  obtain ⟨ti,b,m,c,q,jN,yE,yD,h4,h5⟩:=zTS (q := .bad) (k:=fun _ => .ok) h3 hp
  refine ⟨_,?_,zAu S hb hd h4 h5⟩
  rw [yE]
  simp only [Instr.indexAt,Sem.run_bind,asIntOf,Sem.run_pure,Result.andThen_ok,run_underlying ht]
  rw [if_pos ⟨hn,by omega⟩]
  simp only [Sem.run_bind,zAV jN,Result.andThen_ok,Sem.run_pure]
 ·cases h3
theorem zSB {p:PV} {n:Nat} {v:Value} (h:lenOf p=some n) (hp:Rep w Φ (zA1 w rv E) p v []):∃ b c,v = .slice b n c:=by
 cases p<;>simp only [lenOf] at h<;>try (cases h;done)
 case nils=>cases h;exact ⟨_,_,hp.1⟩
 case nn=>cases h;obtain ⟨_,b,c,h1⟩:=hp;exact ⟨_,_,h1⟩
 case sl xs =>
  cases h
  obtain ⟨_,⟨rfl,b,c,rfl,_⟩ | ⟨b,c,_,_,_,rfl,_⟩⟩:=hp
  ·exact ⟨_,_,rfl⟩
  ·exact ⟨_,_,rfl⟩
 case bor=>cases h;obtain ⟨_,_,⟨b,c,rfl,_⟩,_⟩:=hp;exact ⟨_,_,rfl⟩
 case bsl=>cases h;obtain ⟨_,_,b,c,rfl,_⟩:=hp;exact ⟨_,_,rfl⟩
theorem zWE (S:St w0 U Φ0 nt hv a w e Φ rv E L) (hb:zBh E) {d:Option Nat} (hd:∀ x,d=some x→x<nt) {ty:TypeId} {ts:Array TypeId} {xs:Array Operand} (hx:∀ x∈xs.toList,zAL nt x=true)
  (h:(zBj P d .len ts.toList xs.toList).run o e=some e') :
  ∃ v,(Builtin.len_ ts ty (xs.map a.eval)).run P w = .ok v w∧Fr w0 U Φ0 nt hv (a.put d v) w e':=by
 obtain ⟨ts⟩:=ts;obtain ⟨xs⟩:=xs
 simp only at h hx
 rcases xs with _ | ⟨x,_ | ⟨y,xs⟩⟩<;>rcases ts with _ | ⟨t,ts⟩<;>try (cases h;done)
 obtain ⟨p,h1,hp⟩:=zBk S (hx x (by simp)) h
 split at h1
 ·rename_i n el ht
  refine ⟨_,?_,zAu S hb hd h1 ⟨rfl,rfl⟩⟩
  simp only [Builtin.len_,List.map_toArray,List.map_cons,List.map_nil,List.getElem?_toArray,List.getElem?_cons_zero,Sem.run_bind,run_underlying ht,Result.andThen_ok]
  cases a.eval x<;>rfl
 ·rename_i el ht
  split at h1
  ·rename_i n hn
   obtain ⟨b,c,yE⟩:=zSB hn hp
   refine ⟨_,?_,zAu S hb hd h1 ⟨rfl,rfl⟩⟩
   simp only [Builtin.len_,List.map_toArray,List.map_cons,List.map_nil,List.getElem?_toArray,List.getElem?_cons_zero,Sem.run_bind,run_underlying ht,Result.andThen_ok,yE]
   rfl
  ·cases h1
 ·cases h1
theorem zQs {k:IntKind}:∀ (ps:List PV) (vs:List Value) (m:Int) (r:Option Int),zAX w Φ A ps vs [] →
  (ps.foldl (fun m p=>match m,p with
   | some m,.int k' b=>if k=k' then some (if b>m then b else m) else none
   | _,_=>none) (some m))=r→∀ z,r=some z→(vs.foldlM Builtin.max2 (.int k m)).run P w = .ok (.int k z) w
 | [],vs,m,r,hr,h,z,hz=>by rw [hr.1];simp only [List.foldl_nil] at h;rw [← h] at hz;cases hz;rfl
 | p :: ps,vs,m,r,hr,h,z,hz=>by
  obtain ⟨v,vs',L1,L2,rfl,hL,h1,h2⟩:=hr
  obtain ⟨rfl,rfl⟩:L1=[]∧L2=[]:=by simpa using hL.symm
  have dead:∀ qs:List PV,qs.foldl (fun m p=>match m,p with
   | some m,.int k' b=>if k=k' then some (if b>m then b else m) else none
   | _,_=>none) (none:Option Int)=none:=by
   intro qs;induction qs with
   | nil=>rfl
   | cons q qs ih=>simp only [List.foldl_cons];exact ih
  simp only [List.foldl_cons] at h
  cases p<;>try (simp only at h;rw [dead] at h;rw [← h] at hz;cases hz;done)
  rename_i k' b
  simp only at h
  split at h
  ·rename_i hk;subst hk
   rw [h1.1]
   simp only [List.foldlM_cons,Builtin.max2,Sem.run_bind,Sem.run_pure,Result.andThen_ok]
   exact zQs ps vs' _ r h2 h z hz
  ·rw [dead] at h;rw [← h] at hz;cases hz
theorem zR6 {k:IntKind}:∀ (ps:List PV) (vs:List Value) (m:Int) (r:Option Int),zAX w Φ A ps vs [] →
  (ps.foldl (fun m p=>match m,p with
   | some m,.int k' b=>if k=k' then some (if b<m then b else m) else none
   | _,_=>none) (some m))=r→∀ z,r=some z→(vs.foldlM Builtin.min2 (.int k m)).run P w = .ok (.int k z) w
 | [],vs,m,r,hr,h,z,hz=>by rw [hr.1];simp only [List.foldl_nil] at h;rw [← h] at hz;cases hz;rfl
 | p :: ps,vs,m,r,hr,h,z,hz=>by
  obtain ⟨v,vs',L1,L2,rfl,hL,h1,h2⟩:=hr
  obtain ⟨rfl,rfl⟩:L1=[]∧L2=[]:=by simpa using hL.symm
  have dead:∀ qs:List PV,qs.foldl (fun m p=>match m,p with
   | some m,.int k' b=>if k=k' then some (if b<m then b else m) else none
   | _,_=>none) (none:Option Int)=none:=by
   intro qs;induction qs with
   | nil=>rfl
   | cons q qs ih=>simp only [List.foldl_cons];exact ih
  simp only [List.foldl_cons] at h
  cases p<;>try (simp only at h;rw [dead] at h;rw [← h] at hz;cases hz;done)
  rename_i k' b
  simp only at h
  split at h
  ·rename_i hk;subst hk
   rw [h1.1]
   simp only [List.foldlM_cons,Builtin.min2,Sem.run_bind,Sem.run_pure,Result.andThen_ok]
   exact zR6 ps vs' _ r h2 h z hz
  ·rw [dead] at h;rw [← h] at hz;cases hz
theorem zWM (S:St w0 U Φ0 nt hv a w e Φ rv E L) (hb:zBh E) {d:Option Nat} (hd:∀ x,d=some x→x<nt) {ty:TypeId} {ts:Array TypeId} {xs:Array Operand} (hx:∀ x∈xs.toList,zAL nt x=true)
  (h:(zBj P d .max ts.toList xs.toList).run o e=some e'):∃ v,(Builtin.max_ ts ty (xs.map a.eval)).run P w = .ok v w∧Fr w0 U Φ0 nt hv (a.put d v) w e':=by
 simp only [zBj] at h
 obtain ⟨ps,h1,hp⟩:=zHB S hx h
 cases hm:zXi ps with
 | none=>rw [hm] at h1;cases h1
 | some r =>
  rw [hm] at h1;simp only at h1
  rcases ps with _ | ⟨p,ps⟩<;>simp only [zXi] at hm<;>try (cases hm;done)
  cases p<;>simp only at hm<;>try (cases hm;done)
  rename_i k x0
  simp only [Option.map_eq_some_iff] at hm
  obtain ⟨z,hz,rfl⟩:=hm
  obtain ⟨v,vs',L1,L2,yg,hL,g1,g2⟩:=hp
  obtain ⟨rfl,rfl⟩:L1=[]∧L2=[]:=by simpa using hL.symm
  refine ⟨.int k z,?_,zAu S hb hd h1 ⟨rfl,rfl⟩⟩
  simp only [Builtin.max_,Array.toList_map,yg]
  rw [g1.1]
  exact zQs ps vs' x0 _ g2 hz z rfl
theorem zWp (S:St w0 U Φ0 nt hv a w e Φ rv E L) (hb:zBh E) {d:Option Nat} (hd:∀ x,d=some x→x<nt) {ty:TypeId} {ts:Array TypeId} {xs:Array Operand} (hx:∀ x∈xs.toList,zAL nt x=true)
  (h:(zBj P d .min ts.toList xs.toList).run o e=some e'):∃ v,(Builtin.min_ ts ty (xs.map a.eval)).run P w = .ok v w∧Fr w0 U Φ0 nt hv (a.put d v) w e':=by
 simp only [zBj] at h
 obtain ⟨ps,h1,hp⟩:=zHB S hx h
 cases hm:zWU ps with
 | none=>rw [hm] at h1;cases h1
 | some r =>
  rw [hm] at h1;simp only at h1
  rcases ps with _ | ⟨p,ps⟩<;>simp only [zWU] at hm<;>try (cases hm;done)
  cases p<;>simp only at hm<;>try (cases hm;done)
  rename_i k x0
  simp only [Option.map_eq_some_iff] at hm
  obtain ⟨z,hz,rfl⟩:=hm
  obtain ⟨v,vs',L1,L2,yg,hL,g1,g2⟩:=hp
  obtain ⟨rfl,rfl⟩:L1=[]∧L2=[]:=by simpa using hL.symm
  refine ⟨.int k z,?_,zAu S hb hd h1 ⟨rfl,rfl⟩⟩
  simp only [Builtin.min_,Array.toList_map,yg]
  rw [g1.1]
  exact zR6 ps vs' x0 _ g2 hz z rfl
end
end Go.Eng
namespace Go.Eng
open Go
section
variable {P:Program} {w0 w w':World} {U Φ0 Φ:Nat→Prop} {nt:Nat} {hv:Hid} {a:Act} {e e':Env} {rv rv':Nat→Value} {E E':Nat→PV} {L L':Nat→List Nat} {o:zAC} {A:Al}
def zGz (w:World) (c:Array Value) (t:TypeId):World:={w with heap:=w.heap.push (.cells c t)}
theorem zFc (t:TypeId) (c:Array Value):(newRow t c).run P w = .ok ⟨w.heap.size,0,none⟩ (zGz w c t):=by
 simp [newRow,zGz]
theorem zHe {c:Array Value} {t:TypeId} {b:Nat} (h:b<w.heap.size):(zGz w c t).heap[b]? = w.heap[b]?:=by
 simp only [zGz,Array.getElem?_push];rw [if_neg (by omega)]
theorem zMc {c:Array Value} {t:TypeId}:zEB (zGz w c t) w.heap.size c:=⟨t,by show (w.heap.push (.cells c t))[w.heap.size]? = _;simp⟩
theorem zF2 {c:Array Value} {t:TypeId}:(zGz w c t).heap.size=w.heap.size+1:=by simp [zGz]
theorem zLP {p:PV} {v:Value} (h:zJ0 p v=true):Rep w Φ A p v []∧p.oneCell=true∧v.oneCell'=true:=by
 cases p<;>cases v<;>simp only [zJ0] at h<;>try (cases h;done)
 case int=>simp only [Bool.and_eq_true,decide_eq_true_eq] at h;obtain ⟨rfl,rfl⟩:=h;exact ⟨⟨rfl,rfl⟩,rfl,rfl⟩
 case bool=>simp only [beq_iff_eq] at h;subst h;exact ⟨⟨rfl,rfl⟩,rfl,rfl⟩
 case nilp.pointer a=>cases a<;>simp only [zJ0] at h<;>first | (cases h;done) | exact ⟨⟨rfl,rfl⟩,rfl,rfl⟩
 case nilf=>exact ⟨⟨rfl,rfl⟩,rfl,rfl⟩
 case nilm.map a=>cases a<;>simp only [zJ0] at h<;>first | (cases h;done) | exact ⟨⟨rfl,rfl⟩,rfl,rfl⟩
 case own.slice sz xs a n c =>
  cases xs with
  | cons _ _=>simp only [zJ0] at h;cases h
  | nil =>
   cases a with
   | some _=>simp only [zJ0] at h;cases h
   | none=>cases n<;>cases c<;>simp only [zJ0] at h<;>first | (cases h;done) | exact ⟨.inl ⟨rfl,rfl,rfl⟩,rfl,rfl⟩
theorem zMJ:∀ {ps:List PV} {vs:List Value},zS6 ps vs=true→zAX w Φ A ps vs []∧(∀ v∈vs,v.oneCell'=true)∧∀ p∈ps,p.oneCell=true
 | [],[],_=>⟨⟨rfl,rfl⟩,by simp,by simp⟩
 | [],_::_,h=>by cases h
 | _::_,[],h=>by cases h
 | p::ps,v::vs,h=>by
  simp only [zS6,Bool.and_eq_true] at h
  obtain ⟨h1,h2,h3⟩:=zLP (w:=w) (Φ:=Φ) (A:=A) h.1
  obtain ⟨h4,h5,h6⟩:=zMJ h.2
  exact ⟨⟨v,vs,[],[],rfl,rfl,h1,h4⟩,fun x hx=>(List.mem_cons.1 hx).elim (fun e=>e▸h3) (h5 x),fun x hx=>(List.mem_cons.1 hx).elim (fun e=>e▸h2) (h6 x)⟩
theorem zB8 {p:PV} {v:Value} (h:zMC p v=true):Rep w Φ A p v []∧v.cells.size=p.cells.length∧zCa v=p.isAgg∧(∀ u∈v.cells.toList,u.oneCell'=true)∧∀ q∈p.cells,q.oneCell=true:=by
 by_cases hp:∃ cs,p = .agg cs
 ·obtain ⟨cs,rfl⟩:=hp
  cases v<;>simp only [zMC] at h<;>try (cases h;done)
  rename_i vs
  obtain ⟨h1,h2,h3⟩:=zMJ (w:=w) (Φ:=Φ) (A:=A) h
  have:=h1.length
  exact ⟨⟨vs,rfl,h1⟩,by simpa [Value.cells,PV.cells] using this,rfl,h2,h3⟩
 ·have h:zJ0 p v=true:=by
   rw [← h];cases p<;>first | rfl | exact absurd ⟨_,rfl⟩ hp
  obtain ⟨h1,h2,h3⟩:=zLP (w:=w) (Φ:=Φ) (A:=A) h
  have h4:=zBB h3
  have h5:=zBe h2
  exact ⟨h1,by rw [h4.1,h5.1];rfl,by rw [h4.2,h5.2],by rw [h4.1];simpa using h3,by rw [h5.1];simpa using h2⟩
theorem zDJ {t:TypeId} {z:PV} (h:zCz P t=some z):∃ i v,P.info? t=some i∧i.zero=some v∧(∀ w:World,(zeroValue t).run P w = .ok v w)∧zMC z v=true:=by
 simp only [zCz] at h
 split at h
 ·rename_i cs sh v _ _ hv
  cases hi:P.info? t with
  | none=>rw [hi] at hv;cases hv
  | some i =>
   rw [hi] at hv;simp only [Option.bind_some] at hv
   cases hz:zMC (zNy sh cs) v with
   | false=>rw [hz] at h;cases h
   | true =>
    rw [hz] at h;simp only [cond_true,Option.some.injEq] at h
    subst h
    refine ⟨i,v,rfl,hv,fun w=>?_,hz⟩
    simp [zeroValue,typeInfo,hi,hv]
 ·cases h
theorem St.boxed (S:St w0 U Φ0 nt hv a w e Φ rv E L) {g0 g:Nat} (hg0:zAb≤g0) (hg:zAb≤g) (hI:g≠g0) (uX:E g = .bad) {v:Value} (yE:rv g0=v) (t:TypeId) (yF:v.cells.size=(E g0).cells.length∧zCa v=(E g0).isAgg) :
  ∃ rv1 E1 L1,St w0 U Φ0 nt hv a (zGz w v.cells t) e Φ rv1 E1 L1∧E1 g = .box (E g0)∧rv1 g = .pointer (some ⟨w.heap.size,0,none⟩)∧E1 g0 = .bad∧∀ s,zAb≤s→s≠g→s≠g0→E1 s=E s:=by
 have hX:=S.conf.rep g0
 rw [yE] at hX
 have hold:∀ b∈L g0,(zGz w v.cells t).heap[b]? = w.heap[b]?:=fun b hb=>zHe (S.conf.own g0 b hb).1
 have hΦ:zDe w (zGz w v.cells t) Φ Φ:=fun b hb=>⟨hb,zHe (S.conf.frz b hb).1⟩
 have hc:=S.conf.make (w':=zGz w v.cells t) (fun s=>s==g0) (fun s hs=>by have:=eq_of_beq hs;omega) hg (p := .box (E g0)) (v := .pointer (some ⟨w.heap.size,0,none⟩)) (Lp:=w.heap.size::L g0)
  (fun A hA=>⟨_,v.cells,v,L g0,rfl,rfl,rfl,zMc,by show (v.cells.toList.drop 0).take _=_;rw [← yF.1];exact List.take_of_length_le (by simp),yF,hX.mono hΦ hA hold⟩)
  (List.nodup_cons.2 ⟨fun hm=>absurd (S.conf.own g0 _ hm).1 (Nat.lt_irrefl _),S.conf.nodup g0⟩)
  (fun b hb=>by
   rcases List.mem_cons.1 hb with rfl | hb
   ·exact .inr ⟨Nat.le_refl _,by rw [zF2];omega⟩
   ·exact .inl ⟨g0,hb,by simp⟩)
  (by rw [zF2];omega) (fun b hb _=>zHe hb) ⟨rfl,rfl,rfl⟩
 refine ⟨_,_,_,S.turn hc (fun s hs=>?_) (fun s hs=>zAg (by omega)) (fun d ps hd hp=>?_),zAk,zAk,?_,fun s h1 h2 h3=>?_⟩
 ·rw [zAg (by omega)]
  have:(s==g0)=false:=by simp;omega
  simp only [this,Bool.false_eq_true,if_false];exact S.env s hs
 ·simp only [zAb] at hg hg0
  rw [zAg (by omega)] at hp
  have:(d==g0)=false:=by simp;omega
  simp only [this,Bool.false_eq_true,if_false] at hp;exact ⟨ps,hp,rfl⟩
 ·rw [zAg (Ne.symm hI)];simp
 ·rw [zAg h2]
  have:(s==g0)=false:=by simp [h3]
  simp [this]
theorem zSx (S:St w0 U Φ0 nt hv a w e Φ rv E L) (hb:zBh E) {d:Option Nat} (hd:∀ x,d=some x→x<nt) {t:TypeId} (h:(zR8 P d t).run o e=some e') :
  ∃ v w',(Instr.alloc t true (.tuple #[])).run P w = .ok v w'∧Fr w0 U Φ0 nt hv (a.put d v) w' e':=by
 obtain ⟨z,hz,h1⟩:=zBy h
 obtain ⟨i,v,hi,hiz,yA,kP⟩:=zDJ hz
 have kQ:=zB8 (w:=w) (Φ:=Φ) (A:=zA1 w rv E) kP
 obtain ⟨hr,h2,h3⟩:Rep w Φ (zA1 w rv E) (zRy P t z) v []∧v.cells.size=(zRy P t z).cells.length∧zCa v=(zRy P t z).isAgg:=by
  cases z with
  | nils k =>
   simp only [zRy]
   split
   ·exact ⟨.inl ⟨rfl,rfl,kQ.1.1⟩,kQ.2.1,kQ.2.2.1⟩
   ·exact ⟨kQ.1,kQ.2.1,kQ.2.2.1⟩
  | _=>exact ⟨kQ.1,kQ.2.1,kQ.2.2.1⟩
 have S1:=S.hold (Nat.le_refl zAb) hr
 obtain ⟨rv1,E1,L1,S2,h4,h5,h6,h7⟩:=S1.boxed (g0:=zAb) (g:=zAb+1) (Nat.le_refl _) (by omega) (by omega) (by rw [zAg (by omega)];exact hb _ (by omega)) zAk t (by rw [zAk];exact ⟨h2,h3⟩)
 have:=zFv S2 hd (g:=zAb+1) (by omega) (by rw [h4,zAk];exact h1) (fun s hs hI=>by
   by_cases h8:s=zAb
   ·subst h8;exact h6
   ·rw [h7 s hs hI h8,zAg h8];exact hb s hs)
 rw [h5] at this
 refine ⟨_,_,?_,this⟩
 simp only [Instr.alloc,Sem.run_bind,yA,Result.andThen_ok,newVar,zFc,Sem.run_pure]
theorem zXc (S:St w0 U Φ0 nt hv a w e Φ rv E L) (hb:zBh E) {d:Option Nat} (hd:∀ x,d=some x→x<nt) {t:TypeId} {x:Operand} (hx:zAL nt x=true) (h:(zTm P d t x).run o e=some e') :
  ∃ v w',(Instr.box t (a.eval x)).run P w = .ok v w'∧Fr w0 U Φ0 nt hv (a.put d v) w' e':=by
 obtain ⟨e1,rv1,E1,L1,h1,S1,h2,h3⟩:=zGE S hx (Nat.le_refl zAb) h
 split at h1
 ·rename_i sh n _ _
  obtain ⟨h4,h5⟩:=zDh h1
  simp only [Bool.and_eq_true,decide_eq_true_eq] at h4
  have hX:=S1.conf.rep zAb
  rw [h2] at hX
  have yF:(a.eval x).cells.size=(E1 zAb).cells.length∧zCa (a.eval x)=(E1 zAb).isAgg:=by
   have hw:=h4.2
   simp only [PV.whole,Bool.or_eq_true] at hw
   rcases hw with hw | hw
   ·cases hE:E1 zAb<;>rw [hE] at hw<;>simp [PV.isAgg] at hw
    rw [hE] at hX
    obtain ⟨vs,yE,hr⟩:=hX
    have:=hr.length
    rw [yE];exact ⟨by simpa [Value.cells,PV.cells] using this,rfl⟩
   ·have g1:=zBB (zB2 (fun a v hw h=>zCZ hw h) hX hw)
    have g2:=zBe hw
    exact ⟨by rw [g1.1,g2.1];rfl,by rw [g1.2,g2.2]⟩
  obtain ⟨rv2,E2,L2,S2,h6,h7,h8,h9⟩:=S1.boxed (g0:=zAb) (g:=zAb+1) (Nat.le_refl _) (by omega) (by omega) (by rw [(h3 (zAb+1) (by omega) (by omega)).1];exact hb _ (by omega)) h2 t yF
  have:=zFv S2 hd (g:=zAb+1) (by omega) (by rw [h6];exact h5) (fun s hs hI=>by
    by_cases jR:s=zAb
    ·subst jR;exact h8
    ·rw [h9 s hs hI jR,(h3 s hs jR).1];exact hb s hs)
  rw [h7] at this
  refine ⟨_,_,?_,this⟩
  simp only [Instr.box,Sem.run_bind,newVar,zFc,Result.andThen_ok,Sem.run_pure]
 ·cases h1
theorem zKE {t:TypeId} {sh:Option Nat} (hs:shT P t=some sh) {b:Addr} {u:Value} (hc:∀ j y,u.cells.toList[j]? = some y→w.cell? (b.add j)=some y) (hu:zCa u=sh.isSome) (hn:u.cells.size=sh.getD 1) :
  (loadVar t b).run P w = .ok u w:=by
 obtain ⟨ti,jN,yr,h1,h2⟩:=zFd (w:=w) hs
 cases sh with
 | some n =>
  have:=h1 n rfl;subst this
  cases u<;>simp [zCa] at hu
  rename_i vs
  simp only [Option.getD_some,Value.cells] at hn
  have hl:=run_loadCells_list (P:=P) w b vs.toList hc
  have qw:(loadCells b ti.size).run P w = .ok vs w:=by rw [← hn];simpa using hl
  simp only [loadVar,Sem.run_bind,yr,Result.andThen_ok,Option.isSome_some,if_true,zAV jN,qw,Sem.run_pure,Sem.run_ite]
 | none =>
  have kd:u.cells=#[u]:=by cases u<;>first | rfl | simp [zCa] at hu
  have:=hc 0 u (by rw [kd];rfl)
  have h0:b.add 0=b:=by simp [Addr.add]
  rw [h0] at this
  simp only [loadVar,Sem.run_bind,yr,Result.andThen_ok,Option.isSome_none,Bool.false_eq_true,if_false,Sem.run_ite,run_load,this]
theorem zHR {b:Addr} {c:Array Value} {l:List Value} (y4:b.spot=none) (hr:zJP w b.block c) (h:seg c b.off l.length=l):∀ j y,l[j]? = some y→w.cell? (b.add j)=some y:=by
 intro j y hy
 rw [zBM y4]
 simp only [zAr]
 rw [zCK hr]
 rw [← h] at hy
 exact zC7 hy
theorem zTM {q:List PV} {u:Value} {us:List Value} (h:zAX w Φ A q us []) (hl:us=[u]):Rep w Φ A (q.headD .bad) u []:=by
 subst hl
 cases q with
 | nil=>exact absurd h.1 (by simp)
 | cons p ps =>
  obtain ⟨v,vs',L1,L2,h1,h2,h3,_⟩:=h
  obtain ⟨rfl,rfl⟩:L1=[]∧L2=[]:=by simpa using h2.symm
  simp only [List.cons.injEq] at h1
  rw [h1.1];exact h3
theorem zLk (S:St w0 U Φ0 nt hv a w e Φ rv E L) {t:TypeId} {sh:Option Nat} (hs:shT P t=some sh) {r:Nat} {pre:zAQ} {i c:Nat} {s':Option Nat} {v:Value} (hp:Rep w Φ (zA1 w rv E) (.addr r pre i c s') v [])
  {k:PV→PM} (h:(zMr r pre i c sh k).run o e=some e'):∃ b u q,v = .pointer (some b)∧(loadVar t b).run P w = .ok u w∧(k q).run o e=some e'∧Rep w Φ (zA1 w rv E) q u []:=by
 obtain ⟨_,hg,b,rfl,y4,hn⟩:=hp
 refine ⟨b,?_⟩
 cases sh with
 | some n =>
  simp only [zMr,PM.run] at h
  split at h
  ·rename_i ag qs hq
   rw [← S.env r hg] at hq
   obtain ⟨nv,np,ad,us,h1,h2,h3,h4,h5,h6⟩:=S.conf.cells hg hq
   have:=hn nv np h1 ad h2;subst this
   cases ag with
   | false=>cases h
   | true =>
    refine ⟨.agg us.toArray,.agg qs,rfl,zKE hs (fun j y hy=>h5 j y (by simpa [Value.cells] using hy)) rfl (by simpa [Value.cells] using h4),h,_,rfl,by simpa using h6⟩
  ·cases h
 | none =>
  simp only [zMr,PM.run] at h
  split at h
  ·rename_i ag qs hq
   rw [← S.env r hg] at hq
   obtain ⟨nv,np,ad,us,h1,h2,h3,h4,h5,h6⟩:=S.conf.cells hg hq
   have:=hn nv np h1 ad h2;subst this
   match us,h4 with
   | [u],_ =>
    refine ⟨u,qs.headD .bad,rfl,?_,h,zTM h6 rfl⟩
    have:=h5 0 u rfl
    rw [show b.add 0=b by simp [Addr.add]] at this
    obtain ⟨ti,jN,yr,_⟩:=zFd (w:=w) hs
    simp only [loadVar,Sem.run_bind,yr,Result.andThen_ok,Option.isSome_none,Bool.false_eq_true,if_false,Sem.run_ite,run_load,this]
  ·cases h
theorem zO7 (S:St w0 U Φ0 nt hv a w e Φ rv E L) (hb:zBh E) {d:Option Nat} (hd:∀ x,d=some x→x<nt) {t:TypeId} {sh:Option Nat} (hs:shT P t=some sh) {p:PV} {v:Value} (hp:Rep w Φ (zA1 w rv E) p v []) (h:(zP3 d sh p).run o e=some e') :
  ∃ u,(Instr.loadAt t v).run P w = .ok u w∧Fr w0 U Φ0 nt hv (a.put d u) w e':=by
 cases p<;>simp only [zP3] at h<;>try (cases h;done)
 case ref q =>
  obtain ⟨h1,h2⟩:=zDh h
  simp only [Bool.and_eq_true,decide_eq_true_eq] at h1
  obtain ⟨_,b,c,u,rfl,y4,hΦ,yC,jD,⟨yF,jb⟩,hr⟩:=hp
  refine ⟨u,?_,zAu S hb hd h2 hr⟩
  simp only [Instr.loadAt,Instr.sureAddr,Sem.run_bind,Sem.run_pure,Result.andThen_ok]
  refine zKE hs (zHR y4 yC ?_) ?_ ?_
  ·rw [show u.cells.toList.length=q.cells.length by simpa using yF];exact jD
  ·rw [jb,h1.1]
  ·rw [yF,h1.2]
 case addr r pre i c s' =>
  obtain ⟨b,u,q,rfl,h1,h2,h3⟩:=zLk S hs hp h
  refine ⟨u,?_,zAu S hb hd h2 h3⟩
  simp only [Instr.loadAt,Instr.sureAddr,Sem.run_bind,Sem.run_pure,Result.andThen_ok]
  exact h1
end
end Go.Eng
