/- No zAk that is tried has a lesser spread than the closest one; a settled zAk where all may cry all. -/
import Derived.Calls
import Derived.Below
import Derived.CallsIn
set_option linter.unusedVariables false
set_option linter.unusedSimpArgs false
set_option linter.unusedSectionVars false
namespace Go.Eng
open Go
theorem zzLn {α:Type}:(∀ (l:List α) (i:Nat) (a:α),(l.set i a).length=l.length) ∧ (∀ a b:List α,(a++b).length=a.length+b.length) ∧ (∀ (a:α) (l:List α),(a::l).length=l.length+1) ∧ ([]:List α).length=0:=⟨fun _ _ _=>List.length_set,fun _ _=>List.length_append,fun _ _=>rfl,rfl⟩
inductive PV where
 | bad | und
 | int (k:IntKind) (n:Int) | bool (b:Bool)
 | nilp | nilf | nilm | nn | nils (sz:Nat)
 | agg (cs:List PV) | tup (vs:List PV)
 | sl (xs:List PV) | own (sz:Nat) (xs:List PV)
 | ref (p:PV) | box (p:PV)
 | map (es:List (PV×PV)) | omap (es:List (PV×PV))
 | func (f:FuncId) (first caps:List PV)
 | addr (r:Nat) (pre:List (Nat×Nat)) (i c:Nat) (sh:Option Nat)
 | bor (r:Nat) (pre:List (Nat×Nat)) (sz lo n:Nat)
 | bsl (r:Nat) (pre:List (Nat×Nat)) (i c:Nat) (sz:Nat) (ag:Bool) (n:Nat)
 | bmap (r:Nat) (pre:List (Nat×Nat))
 | lock (p:PV)
 | yld (h:Nat) | log (xs:List PV) (k:Int)
 deriving Inhabited
abbrev zAS:=List (Nat×Nat)
def zAl:Nat:=50000000
def zAA:Nat:=60000000
def zAb:Nat:=1000000000
def depth:Nat:=6
abbrev Env:=List (Nat×PV)
def Env.get:Env→Nat→PV
 | [],_ => .bad
 | (k,v)::e,s=>bif Nat.beq k s then v else Env.get e s
def Env.set:Env→Nat→PV→Env
 | [],s,p=>[(s,p)]
 | (k,v)::e,s,p=>bif Nat.beq k s then (s,p)::e else bif Nat.ble s k then (s,p)::(k,v)::e else (k,v)::Env.set e s p
def PV.cells:PV→List PV
 | .agg cs=>cs
 | p=>[p]
def zM8:Option Nat→List PV→PV
 | some _,cs => .agg cs
 | none,c::_=>c
 | none,[] => .bad
def PV.isAgg:PV→Bool
 | .agg _=>true
 | _=>false
def PV.oneCell:PV→Bool
 | .int .. | .bool _ | .nilp | .nilf | .nilm | .nn | .nils _ | .sl _ | .own .. | .ref _ | .box _ | .map _ | .omap _ | .func .. | .addr .. | .bor .. | .bsl .. | .bmap .. => true
 | _=>false
def PV.whole (p:PV):Bool:=p.isAgg||p.oneCell
def PV.isTup:PV→Bool
 | .tup _=>true
 | _=>false
def PV.heavy0:PV→Bool
 | .own .. | .box .. | .omap .. => true
 | _=>false
mutual
def PV.heavy:PV→Bool
 | .own .. => true
 | .box _=>true
 | .omap _=>true
 | .lock _=>true
 | .agg cs=>zC3 cs
 | .tup vs=>zC3 vs
 | _=>false
def zC3:List PV→Bool
 | []=>false
 | p::ps=>p.heavy||zC3 ps
end
def zGA (r:Nat) (pre:zAS):PV→PV
 | .agg _ | .tup _ | .lock _ => .bad
 | .own sz xs => .bor r pre sz 0 xs.length
 | .box p => .addr r pre 0 0 (match p with | .agg cs=>some cs.length | _=>none)
 | .omap _ => .bmap r pre
 | p=>p
def zBN (r:Nat) (pre:zAS) (i:Nat):Nat→List PV→List PV
 | _,[]=>[]
 | c,p::ps=>zGA r (pre++[(i,c)]) p::zBN r pre i (c+1) ps
def zSs (r:Nat):PV→PV
 | .agg cs => .agg (zBN r [] 0 0 cs)
 | .tup _ => .bad
 | p=>zGA r [] p
def view (r:Nat):PV→PV
 | .lock p=>zSs r p
 | p=>zSs r p
def PV.unlock:PV→PV
 | .lock p=>p
 | p=>p
def zVO:PV→Option (List PV)
 | .own _ xs=>some xs
 | .sl xs=>some xs
 | .box p=>some [p]
 | .ref p=>some [p]
 | .agg cs=>some [.agg cs]
 | _=>none
def zA9:PV→Option (List PV)
 | .own _ xs=>some xs
 | .box p=>some [p]
 | _=>none
def zAy:PV→List PV→Option PV
 | .own sz _,xs=>some (.own sz xs)
 | .box _,[p]=>some (.box p)
 | .agg _,[.agg cs]=>some (.agg cs)
 | _,_=>none
def zAY:PV→Option (List PV)
 | .own _ xs=>some xs
 | .box p=>some [p]
 | .agg cs=>some [.agg cs]
 | _=>none
def zAB:PV→Nat→List PV→PV
 | .agg cs,c,qs => .agg (cs.take c++qs++cs.drop (c+qs.length))
 | _,_,q::_=>q
 | p,_,[]=>p
def zAC:PV→zAS→Option PV
 | p,[]=>some p
 | p,(i,c)::rest =>
  match zAY p with
  | some xs=>match xs[i]? with
   | some x=>match x.cells[c]? with
    | some q=>zAC q rest
    | none=>none
   | none=>none
  | none=>none
def zAv (f:PV→Option PV):PV→zAS→Option PV
 | p,[]=>f p
 | p,(i,c)::rest =>
  match zAY p with
  | some xs=>match xs[i]? with
   | some x=>match x.cells[c]? with
    | some q=>match zAv f q rest with
     | some q'=>zAy p (xs.set i (zAB x c [q']))
     | none=>none
    | none=>none
   | none=>none
  | none=>none
mutual
def zA0:PV→PV
 | .own _ xs => .sl (zAo xs)
 | .box q => .ref (zA0 q)
 | .omap es => .map es
 | .agg cs => .agg (zAo cs)
 | .tup _ => .bad
 | .lock _ => .bad
 | p=>p
def zAo:List PV→List PV
 | []=>[]
 | p::ps=>zA0 p::zAo ps
end
mutual
def PV.free:PV→Bool
 | .int .. | .bool .. | .nilp | .nilf | .nilm | .nn | .nils _ | .und=>true
 | .sl []=>true
 | .agg cs=>zFu cs
 | .tup vs=>zFu vs
 | .own _ xs=>zFu xs
 | .box q=>q.free
 | .omap es=>zOD es
 | _=>false
def zFu:List PV→Bool
 | []=>true
 | p::ps=>p.free&&zFu ps
def zOD:List (PV×PV)→Bool
 | []=>true
 | (k,v)::es=>k.free&&v.free&&zOD es
end
inductive PM where
 | ok | fail
 | view (s:Nat) (k:PV→PM)
 | get (s:Nat) (k:PV→PM)
 | set (s:Nat) (p:PV) (k:PM)
 | cells (r:Nat) (pre:zAS) (i c n:Nat) (k:Bool→List PV→PM)
 | deep (r:Nat) (pre:zAS) (k:PV→PM)
 | wcells (r:Nat) (pre:zAS) (i c:Nat) (qs:List PV) (k:PM)
 | wnode (r:Nat) (pre:zAS) (q:PV) (k:PM)
 | kill (r:Nat) (pre:zAS) (k:PM)
 | frz (r:Nat) (pre:zAS) (k:PM)
 | killEx (r:Nat) (keep:List zAS) (k:PM)
 | forget (h:Nat) (k:PM)
 | call (f:FuncId) (args hid:List PV) (k:PV→List PV→PM)
abbrev zAF:=FuncId→List PV→List PV→Option (PV×List PV)
mutual
def PV.mapW (f:PV→PV):PV→PV
 | .addr r pre i c sh=>f (.addr r pre i c sh)
 | .bor r pre z lo n=>f (.bor r pre z lo n)
 | .bsl r pre i c sz ag n=>f (.bsl r pre i c sz ag n)
 | .bmap r pre=>f (.bmap r pre)
 | .log xs k=>f (.log xs k)
 | .agg cs => .agg (zCK f cs)
 | .tup cs => .tup (zCK f cs)
 | .func g a b => .func g (zCK f a) (zCK f b)
 | .ref q => .ref (q.mapW f)
 | .box q => .box (q.mapW f)
 | .lock q => .lock (q.mapW f)
 | p=>p
def zCK (f:PV→PV):List PV→List PV
 | []=>[]
 | p::ps=>p.mapW f::zCK f ps
end
mutual
def PV.ways:PV→List (Nat×zAS)
 | .addr r pre .. => [(r,pre)]
 | .bor r pre .. => [(r,pre)]
 | .bsl r pre .. => [(r,pre)]
 | .bmap r pre=>[(r,pre)]
 | .agg cs=>zBy cs
 | .tup cs=>zBy cs
 | .func _ a b=>zBy a++zBy b
 | .ref q=>q.ways
 | .box q=>q.ways
 | .lock q=>q.ways
 | _=>[]
def zBy:List PV→List (Nat×zAS)
 | []=>[]
 | p::ps=>p.ways++zBy ps
end
def PV.plain0:PV→Bool
 | .int .. | .bool .. | .nilp | .nilf | .nilm | .nn | .nils _ | .sl .. | .map .. => true
 | .ref q=>q.ways.isEmpty
 | _=>false
def PV.plain:PV→Bool
 | .agg cs=>cs.all PV.plain0
 | p=>p.plain0
def lose (r:Nat) (pre:zAS):PV→PV
 | .addr r' q i c sh=>bif Nat.beq r' r&&pre.isPrefixOf q then .bad else .addr r' q i c sh
 | .bor r' q z lo n=>bif Nat.beq r' r&&pre.isPrefixOf q then .bad else .bor r' q z lo n
 | .bsl r' q i c sz ag n=>bif Nat.beq r' r&&pre.isPrefixOf q then .bad else .bsl r' q i c sz ag n
 | .bmap r' q=>bif Nat.beq r' r&&pre.isPrefixOf q then .bad else .bmap r' q
 | p=>p
def zBF (r:Nat) (keep:List zAS):PV→PV
 | .addr r' q i c sh=>bif Nat.beq r' r && !(q.isEmpty||keep.any q.isPrefixOf) then .bad else .addr r' q i c sh
 | .bor r' q z lo n=>bif Nat.beq r' r && !(q.isEmpty||keep.any q.isPrefixOf) then .bad else .bor r' q z lo n
 | .bsl r' q i c sz ag n=>bif Nat.beq r' r && !(q.isEmpty||keep.any q.isPrefixOf) then .bad else .bsl r' q i c sz ag n
 | .bmap r' q=>bif Nat.beq r' r && !(q.isEmpty||keep.any q.isPrefixOf) then .bad else .bmap r' q
 | p=>p
def Env.killEx (e:Env) (r:Nat) (keep:List zAS):Env:=e.map fun x=>(x.1,x.2.mapW (zBF r keep))
def zAQ (r:Nat) (pre:zAS) (r':Nat) (q:zAS):Bool:=Nat.beq r' r&&pre.isPrefixOf q
def zDB (i c:Nat) (sh:Option Nat) (q:PV):PV :=
 match zA9 q with
 | some xs=>match xs[i]? with
  | some x=>match sh with
   | some m=>bif Nat.ble (c+m) x.cells.length&&x.isAgg then .ref (.agg (zAo ((x.cells.drop c).take m))) else .bad
   | none=>match x.cells[c]? with
    | some q=>bif q.oneCell then .ref (zA0 q) else .bad
    | none => .bad
  | none => .bad
 | none => .bad
def zDi (lo n:Nat):PV→PV
 | .own _ xs=>bif Nat.ble (lo+n) xs.length then .sl (zAo ((xs.drop lo).take n)) else .bad
 | _ => .bad
def zCk (ag:Bool) (sz:Nat):Nat→List PV→List PV
 | 0,_=>[]
 | m+1,cs=>(bif ag then .agg (cs.take sz) else cs.headD .bad)::zCk ag sz m (cs.drop sz)
def zCg (ag:Bool) (sz m:Nat) (cs:List PV):Bool:=Nat.beq cs.length (m*sz)&&(ag||Nat.beq sz 1&&cs.all (fun q=>q.oneCell))
def zCp (i c sz:Nat) (ag:Bool) (m:Nat) (q:PV):PV :=
 match zA9 q with
 | some xs=>match xs[i]? with
  | some x=>bif zCg ag sz m ((x.cells.drop c).take (m*sz))&&(zBy x.cells).isEmpty then .sl (zCk ag sz m (zAo ((x.cells.drop c).take (m*sz)))) else .bad
  | none => .bad
 | none => .bad
def zEL:PV→PV
 | .omap es => .map es
 | _ => .bad
def zHV (q:Option PV) (f:PV→PV):PV :=
 match q with
 | some x=>f x
 | none => .bad
def inl (r:Nat) (pre:zAS) (q0:PV):PV→PV
 | .addr r' q i c sh=>bif zAQ r pre r' q then zHV (zAC q0 (q.drop pre.length)) (zDB i c sh) else .addr r' q i c sh
 | .bor r' q z lo n=>bif zAQ r pre r' q then zHV (zAC q0 (q.drop pre.length)) (zDi lo n) else .bor r' q z lo n
 | .bsl r' q i c sz ag n=>bif zAQ r pre r' q then zHV (zAC q0 (q.drop pre.length)) (zCp i c sz ag n) else .bsl r' q i c sz ag n
 | .bmap r' q=>bif zAQ r pre r' q then zHV (zAC q0 (q.drop pre.length)) zEL else .bmap r' q
 | p=>p
def PV.isLock:PV→Bool
 | .lock _=>true
 | _=>false
def Env.frz (e:Env) (r:Nat) (pre:zAS):Option Env :=
 bif (e.get r).isLock then none else match zAC (e.get r) pre with
 | some q=>match zAv (fun _=>some (zA0 q)) (e.get r) pre with
  | some root=>some ((e.set r root).map fun x=>(x.1,x.2.mapW (inl r pre q)))
  | none=>none
 | none=>none
def Env.kill (e:Env) (r:Nat) (pre:zAS):Env:=e.map fun x=>(x.1,x.2.mapW (lose r pre))
def PV.num:PV→Bool
 | .int .. => true
 | .bool _=>true
 | _=>false
def PV.isWay:PV→Bool
 | .addr .. | .bor .. | .bsl .. | .bmap .. | .log .. => true
 | _=>false
def Env.forget (e:Env) (h:Nat):Env:=e.map fun x=>bif Nat.beq x.1 h||x.2.num then x else (x.1,.bad)
def zAH (r:Nat) (root:PV) (pre:zAS) (i c n:Nat):Option (Bool×List PV) :=
 match zAC root.unlock pre with
 | some q=>match zA9 q with
  | some xs=>match xs[i]? with
   | some x=>bif Nat.ble (c+n) x.cells.length then some (x.isAgg,zBN r pre i c ((x.cells.drop c).take n)) else none
   | none=>none
  | none=>none
 | none=>none
def zDA:PV→zAS→Bool
 | .own ..,_=>true
 | _,[]=>false
 | p,(i,c)::rest =>
  match zAY p with
  | some xs=>match xs[i]? with
   | some x=>match x.cells[c]? with
    | some q=>zDA q rest
    | none=>false
   | none=>false
  | none=>false
def zBL (root:PV) (pre:zAS) (i c:Nat) (qs:List PV):Option PV :=
 bif zDA root pre && !(zBy qs).isEmpty then none else zAv (fun q=>match zA9 q with
  | some xs=>match xs[i]? with
   | some x=>bif Nat.ble (c+qs.length) x.cells.length then zAy q (xs.set i (zAB x c qs)) else none
   | none=>none
  | none=>none) root pre
def PM.run (o:zAF):PM→Env→Option Env
 | .ok,e=>some e
 | .fail,_=>none
 | .view s k,e=>(k (Eng.view s (e.get s))).run o e
 | .get s k,e=>match e.get s with
  | .lock _=>none
  | p=>(k p).run o e
 | .set s p k,e=>k.run o (e.set s p)
 | .cells r pre i c n k,e=>match zAH r (e.get r) pre i c n with
  | some (a,qs)=>(k a qs).run o e
  | none=>none
 | .deep r pre k,e=>match zAC (e.get r).unlock pre with
  | some q=>(k q).run o e
  | none=>none
 | .wcells r pre i c qs k,e=>match zBL (e.get r) pre i c qs with
  | some root=>k.run o (e.set r root)
  | none=>none
 | .wnode r pre q k,e=>bif (e.get r).isLock then none else match zAv (fun _=>some q) (e.get r) pre with
  | some root=>k.run o (e.set r root)
  | none=>none
 | .kill r pre k,e=>k.run o (e.kill r pre)
 | .frz r pre k,e=>match e.frz r pre with
  | some e'=>k.run o e'
  | none=>none
 | .killEx r keep k,e=>k.run o (e.killEx r keep)
 | .forget h k,e=>k.run o (e.forget h)
 | .call f args hid k,e=>match o f args hid with
  | some (v,hid')=>(k v hid').run o e
  | none=>none
structure Tok where
 look:List Nat:=[]
 rd:List Nat:=[]
 cel:List (Nat×zAS):=[]
 wr:List Nat:=[]
 inn:List (Nat×zAS):=[]
 ways:List (Nat×zAS):=[]
 kills:List Nat:=[]
 killsIn:List Nat:=[]
 all:Bool:=false
 deriving Inhabited
def Tok.join (a b:Tok):Tok:=⟨a.look++b.look,a.rd++b.rd,a.cel++b.cel,a.wr++b.wr,a.inn++b.inn,a.ways++b.ways,a.kills++b.kills,a.killsIn++b.killsIn,a.all||b.all⟩
def zCi:PV→PV→Bool
 | .box p,.box q=>p.isAgg==q.isAgg&&Nat.beq p.cells.length q.cells.length
 | .own sz xs,.own sz' ys=>Nat.beq sz sz'&&Nat.beq xs.length ys.length
 | .omap _,.omap _=>true
 | _,_=>false
def zAM:PV→PV→zAS→Bool
 | .agg cs,.agg ds,(_,c)::_=>match cs[c]?,ds[c]? with
  | some p,some q=>zCi p q
  | _,_=>false
 | p,q,_=>zCi p q
def zRp (a b:List Nat):Bool:=a.any fun x=>b.any (Nat.beq x)
def zMf (l:List (Nat×zAS)):List Nat:=l.map (·.1)
def zOv (a b:Tok):Bool :=
 a.all||zRp a.wr b.look||zRp a.wr b.rd||zRp a.wr (zMf b.cel)||zRp a.wr b.wr||zRp a.wr (zMf b.inn)||zRp (zMf a.inn) b.rd||zRp (zMf a.inn) (zMf b.inn) ||
  a.inn.any (fun w=>b.cel.any fun c=>Nat.beq w.1 c.1&&w.2.isPrefixOf c.2)||zRp a.kills (zMf b.ways) ||
  zRp a.killsIn (zMf (b.ways.filter fun w => !w.2.isEmpty))
def zPp (a b:Tok):Bool:=zOv a b||zOv b a
def zFo (s:Nat) (p q:PV):Tok:={wr:=[s],ways:=p.ways++q.ways}
def zAN (D:List Nat) (g g':Nat→PV) (ks ki:List Nat):Tok:={wr:=D,ways:=D.flatMap fun s=>(g s).ways++(g' s).ways,kills:=ks,killsIn:=ki}
def zC9 (e:Env) (h:Nat×zAS→Bool):List Nat:=(e.filter fun x=>x.2.ways.any h).map (·.1)
def zBd (r:Nat) (w:zAS) (b:Bool) (p q:PV):Tok:={inn:=bif b then [(r,w)] else [],wr:=bif b then [] else [r],ways:=p.ways++q.ways}
def PM.runT (o:zAF):PM→Env→Option (Env×Tok)
 | .ok,e=>some (e,{})
 | .fail,_=>none
 | .view s k,e=>((k (Eng.view s (e.get s))).runT o e).map fun x=>(x.1,Tok.join {look:=[s]} x.2)
 | .get s k,e=>match e.get s with
  | .lock _=>none
  | p=>((k p).runT o e).map fun x=>(x.1,Tok.join {rd:=[s]} x.2)
 | .set s p k,e=>(k.runT o (e.set s p)).map fun x=>(x.1,Tok.join (zFo s (e.get s) p) x.2)
 | .cells r pre i c n k,e=>match zAH r (e.get r) pre i c n with
  | some (a,qs)=>((k a qs).runT o e).map fun x=>(x.1,Tok.join {cel:=[(r,pre)]} x.2)
  | none=>none
 | .deep r pre k,e=>match zAC (e.get r).unlock pre with
  | some q=>((k q).runT o e).map fun x=>(x.1,Tok.join {rd:=[r]} x.2)
  | none=>none
 | .wcells r pre i c qs k,e=>match zBL (e.get r) pre i c qs with
  | some root=>(k.runT o (e.set r root)).map fun x=>(x.1,Tok.join (zBd r [] (zAM (e.get r) root pre) (e.get r) root) x.2)
  | none=>none
 | .wnode r pre q k,e=>bif (e.get r).isLock then none else match zAv (fun _=>some q) (e.get r) pre with
  | some root=>(k.runT o (e.set r root)).map fun x=>(x.1,Tok.join (zBd r pre.dropLast (zAM (e.get r) root pre&&(pre.isEmpty || !q.isAgg)) (e.get r) root) x.2)
  | none=>none
 | .kill r pre k,e=>(k.runT o (e.kill r pre)).map fun x=>(x.1,Tok.join (zAN (zC9 e fun z=>zAQ r pre z.1 z.2) e.get (e.kill r pre).get [r] []) x.2)
 | .frz r pre k,e=>match e.frz r pre with
  | some e'=>(k.runT o e').map fun x=>(x.1,Tok.join (zAN (r::zC9 e fun z=>zAQ r pre z.1 z.2) e.get e'.get [r] []) x.2)
  | none=>none
 | .killEx r keep k,e=>(k.runT o (e.killEx r keep)).map fun x=>(x.1,Tok.join (zAN (zC9 e fun z=>Nat.beq z.1 r && !z.2.isEmpty) e.get (e.killEx r keep).get [] [r]) x.2)
 | .forget h k,e=>(k.runT o (e.forget h)).map fun x=>(x.1,{all:=true})
 | .call f args hid k,e=>match o f args hid with
  | some (v,hid')=>(k v hid').runT o e
  | none=>none
variable (P:Program)
def szT (t:TypeId):Option Nat:=(P.info? t).map (·.size)
def zHZ (t:TypeId):Option Nat:=(P.info? t).map (·.bytes)
def shT (t:TypeId):Option (Option Nat) :=
 match P.underlying t,P.info? t with
 | some (.struct _),some i=>some (some i.size)
 | some (.array _ _),some i=>some (some i.size)
 | some _,some i=>if i.size=1 then some none else none
 | _,_=>none
def zBX (t:TypeId):Option TypeId :=
 match P.underlying t with
 | some (.slice e)=>some e
 | _=>none
def zeroCells:Nat→TypeId→Option (List PV)
 | 0,_=>none
 | n+1,t=>match P.underlying t with
  | some (.int k)=>some [.int k 0]
  | some .bool=>some [.bool false]
  | some (.pointer _)=>some [.nilp]
  | some (.func ..)=>some [.nilf]
  | some (.map ..)=>some [.nilm]
  | some (.slice e)=>(szT P e).map fun s=>[.own s []]
  | some (.array m e)=>(zeroCells n e).map fun z=>(List.replicate m z).flatten
  | some (.struct fs)=>(fs.toList.mapM fun f=>zeroCells n f.type).map List.flatten
  | _=>none
def zJT:PV→Value→Bool
 | .int k n,.int k' m=>decide (k=k')&&decide (n=m)
 | .bool a,.bool b=>a==b
 | .nilp,.pointer none=>true
 | .nilf,.nilFunc=>true
 | .nilm,.map none=>true
 | .own _ [],.slice none 0 0=>true
 | _,_=>false
def zSm:List PV→List Value→Bool
 | [],[]=>true
 | p::ps,v::vs=>zJT p v&&zSm ps vs
 | _,_=>false
def zMM:PV→Value→Bool
 | .agg cs,.agg vs=>zSm cs vs.toList
 | .agg _,_=>false
 | p,v=>zJT p v
def zDc (t:TypeId):Option PV :=
 match zeroCells P 20 t,shT P t,(P.info? t).bind (·.zero) with
 | some cs,some sh,some v=>bif zMM (zM8 sh cs) v then some (zM8 sh cs) else none
 | _,_,_=>none
def zEg:Value→PV
 | .int k n => .int k n
 | .bool b => .bool b
 | .slice none 0 0 => .nils 0
 | .pointer none => .nilp
 | .nilFunc => .nilf
 | .map none => .nilm
 | .agg cs => .agg (cs.toList.map fun | .int k n => .int k n | .bool b => .bool b | _ => .bad)
 | _ => .bad
def opd (x:Operand) (k:PV→PM):PM :=
 match x with
 | .tmp t => .view t k
 | .const v=>k (zEg v)
 | .func f=>k (.func f [] [])
 | .global _ => .fail
def zOM (x:Operand) (k:PV→PM):PM :=
 match x with
 | .tmp t => .get t fun p=>if p.heavy then .set t .bad (k p) else k p
 | .const v=>k (zEg v)
 | .func f=>k (.func f [] [])
 | .global _ => .fail
def zSI:List Operand→(List PV→PM)→PM
 | [],k=>k []
 | x::xs,k=>opd x fun p=>zSI xs fun ps=>k (p::ps)
def zSr:List Operand→(List PV→PM)→PM
 | [],k=>k []
 | x::xs,k=>zOM x fun p=>zSr xs fun ps=>k (p::ps)
def lay (d:Nat) (p:PV) (k:PM):PM:=bif p.heavy then .kill d [] (.set d (p.mapW (lose d [])) k) else .set d p k
def put (d:Option Nat) (p:PV):PM :=
 match d with
 | none => .ok
 | some d=>bif p.isTup then .fail else lay d p .ok
def zBq (d i:Nat):Nat:=2000000+16*d+i
def zFk (d:Nat):Nat→List PV→PM→PM
 | n,[],k => .set d (.tup (List.replicate n .bad)) k
 | i,p::ps,k=>lay (zBq d i) p (zFk d (i+1) ps k)
def zJG (d s:Nat):Bool:=Nat.ble (zBq d 0) s&&Nat.blt s (zBq d 16)
def zEY (d:Option Nat) (v:PV):PM :=
 match d,v with
 | some d,.tup vs=>bif Nat.ble vs.length 16&&(zBy vs).all (fun w => !zJG d w.1) then .set d .bad (zFk d 0 vs .ok) else .fail
 | d,v=>put d v
def zFT (s d:Nat):Nat→Nat→PM
 | n,0 => .set d (.tup (List.replicate n .bad)) .ok
 | i,n+1 => .get (zBq s i) fun p => .set (zBq s i) .bad (lay (zBq d i) p (zFT s d (i+1) n))
def zVG:PV→PV→Option Bool
 | .int k a,.int k' b=>if k=k' then some (a==b) else none
 | .bool a,.bool b=>some (a==b)
 | .nilp,.nilp=>some true
 | _,_=>none
def zFw:List PV→List PV→Option Bool
 | [],[]=>some true
 | p::ps,q::qs=>match zVG p q,zFw ps qs with
  | some a,some b=>some (a&&b)
  | _,_=>none
 | _,_=>none
def zEr:PV→Bool
 | .sl (_::_)=>true
 | .nn=>true
 | .own _ (_::_)=>true
 | .bor _ _ _ _ (_+1)=>true
 | _=>false
def sub (p:PV) (off:Nat) (sh:Option Nat):Option PV :=
 match p,sh with
 | .agg cs,some n=>if off+n≤cs.length then some (.agg ((cs.drop off).take n)) else none
 | .agg cs,none=>cs[off]?
 | _,_=>none
def zTa (eq:TypeId→PV→PV→Option Bool) (sh:TypeId→Option (Option Nat)) (p q:PV):List Field→Option Bool
  | []=>some true
  | f :: fs =>
    if f.name = "_" then zTa eq sh p q fs else
    match sh f.type with
    | some s=>match sub p f.offset s,sub q f.offset s with
      | some a,some b=>match eq f.type a b with
        | some true=>zTa eq sh p q fs
        | r=>r
      | _,_=>none
    | none=>none
def zN1 (eq:PV→PV→Option Bool) (sh:Option Nat) (sz:Nat) (p q:PV):Nat→Nat→Option Bool
 | _,0=>some true
 | i,n+1 =>
  match sub p (i*sz) sh,sub q (i*sz) sh with
  | some a,some b=>match eq a b with
   | some true=>zN1 eq sh sz p q (i+1) n
   | r=>r
  | _,_=>none
def eqT:Nat→TypeId→PV→PV→Option Bool
 | 0,_,_,_=>none
 | n + 1,t,p,q =>
  match P.underlying t,p,q with
  | some (.int _),.int k a,.int k' b=>if k=k' then some (a==b) else none
  | some .bool,.bool a,.bool b=>some (a==b)
  | some (.pointer _),.nilp,.nilp=>some true
  | some (.struct fs),.agg xs,.agg ys=>bif P.stoodInHeld t then none else zTa (eqT n) (shT P) (.agg xs) (.agg ys) fs.toList
  | some (.array len e),.agg xs,.agg ys=>match szT P e,shT P e with
   | some sz,some sh=>zN1 (eqT n e) sh sz (.agg xs) (.agg ys) 0 len
   | _,_=>none
  | _,_,_=>none
def eqV (t:TypeId) (p q:PV):Option Bool :=
 match q with
 | .nils _=>match P.underlying t,p with
  | some (.slice _),.nils _=>some true
  | some (.slice _),p=>bif zEr p then some false else none
  | _,_=>none
 | .agg ys=>match p with
  | .agg xs=>bif P.eqGuardType P.depth t then none else eqT P 20 t (.agg xs) (.agg ys)
  | _=>none
 | q=>bif p.isAgg then none else eqT P 20 t p q
def zR3 (op:BinOp) (k:IntKind) (a b:Int):Option PV :=
 match op with
 | .add=>some (.int k (k.wrap (a+b)))
 | .sub=>some (.int k (k.wrap (a-b)))
 | .mul=>some (.int k (k.wrap (a*b)))
 | .quo=>if b=0 then none else some (.int k (k.wrap (a.tdiv b)))
 | .rem=>if b=0 then none else some (.int k (a.tmod b))
 | .and=>some (.int k (k.wrap (BitVec.ofInt k.bits a &&& BitVec.ofInt k.bits b).toNat))
 | .or=>some (.int k (k.wrap (BitVec.ofInt k.bits a ||| BitVec.ofInt k.bits b).toNat))
 | .xor=>some (.int k (k.wrap (BitVec.ofInt k.bits a ^^^ BitVec.ofInt k.bits b).toNat))
 | .eql=>some (.bool (a==b))
 | .neq=>some (.bool (a != b))
 | .lss=>some (.bool (decide (a<b)))
 | .leq=>some (.bool (decide (a≤b)))
 | .gtr=>some (.bool (decide (a>b)))
 | .geq=>some (.bool (decide (a≥b)))
 | _=>none
def zNB (op:BinOp) (t:TypeId) (p q:PV):Option PV :=
 match op,p,q with
 | .shl,.int k a,.int _ b=>if b<0 then none else some (.int k (k.wrap (a*2 ^ (min b.toNat k.bits))))
 | .shr,.int k a,.int _ b=>if b<0 then none else some (.int k (a.fdiv (2 ^ (min b.toNat k.bits))))
 | op,.int k a,.int k' b=>if k=k' then zR3 op k a b else none
 | .eql,p,q=>(eqV P t p q).map .bool
 | .neq,p,q=>(eqV P t p q).map fun b => .bool (!b)
 | _,_,_=>none
def lenOf:PV→Option Nat
 | .nils _=>some 0
 | .nn=>some 0
 | .sl xs=>some xs.length
 | .bor _ _ _ _ n=>some n
 | .bsl _ _ _ _ _ _ n=>some n
 | _=>none
def zLM (r:Nat) (pre:zAS) (i c:Nat) (sh:Option Nat) (k:PV→PM):PM :=
 match sh with
 | some n => .cells r pre i c n fun a qs=>bif a then k (.agg qs) else .fail
 | none => .cells r pre i c 1 fun _ qs=>k (qs.headD .bad)
def zDM (r:Nat) (pre:zAS) (i:Nat):Nat→List PV→PM→PM
 | _,[],k=>k
 | c,q::qs,k=>bif q.heavy then .kill r (pre++[(i,c)]) (zDM r pre i (c+1) qs k) else zDM r pre i (c+1) qs k
def zEm (res:PV→(PV→List (Nat×zAS)→PM)→PM):List PV→(List PV→List (Nat×zAS)→PM)→PM
 | [],k=>k [] []
 | p::ps,k=>res p fun q l=>zEm res ps fun qs m=>k (q::qs) (l++m)
def resolve (hb:Nat):Nat→PV→(PV→List (Nat×zAS)→PM)→PM
 | 0,_,_ => .fail
 | n + 1,p,k =>
  match p with
  | .addr r pre i c sh=>bif Nat.ble hb r then k p [] else .deep r pre fun q=>match zA9 q with
   | some xs=>match xs[i]? with
    | some x=>match sh with
     | some m=>bif Nat.ble (c+m) x.cells.length&&x.isAgg then resolve hb n (.agg ((x.cells.drop c).take m)) fun q l=>k (.ref q) ((r,pre)::l) else .fail
     | none=>match x.cells[c]? with
      | some q=>bif q.oneCell then resolve hb n q fun q l=>k (.ref q) ((r,pre)::l) else .fail
      | none => .fail
    | none => .fail
   | none => .fail
  | .bor r pre _ lo m=>bif Nat.ble hb r then k p [] else .deep r pre fun q=>match q with
   | .own _ xs=>bif Nat.ble (lo+m) xs.length then k (.sl (zAo ((xs.drop lo).take m))) [(r,pre)] else .fail
   | _ => .fail
  | .bsl r pre i c sz ag m=>bif Nat.ble hb r then k p [] else .deep r pre fun q=>match zA9 q with
   | some xs=>match xs[i]? with
    | some x=>bif zCg ag sz m ((x.cells.drop c).take (m*sz))&&(zBy x.cells).isEmpty then k (.sl (zCk ag sz m (zAo ((x.cells.drop c).take (m*sz))))) [(r,pre)] else .fail
    | none => .fail
   | none => .fail
  | .bmap r pre=>bif Nat.ble hb r then k p [] else .deep r pre fun q=>match q with
   | .omap es=>k (.map es) [(r,pre)]
   | _ => .fail
  | .agg cs=>bif (p.ways).isEmpty then k (zA0 p) [] else zEm (resolve hb n) cs fun qs l=>k (.agg qs) l
  | .func f a b=>bif (p.ways).isEmpty then k p [] else zEm (resolve hb n) a fun as l=>zEm (resolve hb n) b fun bs m=>k (.func f as bs) (l++m)
  | .ref q=>bif (q.ways).isEmpty then k p [] else resolve hb n q fun q l=>k (.ref q) l
  | .bad=>k .bad []
  | p=>bif p.ways.all (fun w=>Nat.ble hb w.1) then k (zA0 p) [] else .fail
def zGZ (p:PV) (k:List PV→PM):PM :=
 match p with
 | .nils _=>k []
 | .nn=>k []
 | .sl xs=>k xs
 | .bor r pre z lo n => .deep r pre fun q=>match q with
  | .own _ xs=>bif Nat.ble (lo+n) xs.length then k ((xs.drop lo).take n) else .fail
  | _ => .fail
 | .bsl r pre i c sz ag n => .cells r pre i c (n*sz) fun _ cs=>bif zCg ag sz n cs&&cs.all (fun q=>q.plain0) then k (zCk ag sz n cs) else .fail
 | _ => .fail
def zAk (p:PV) (k:PV→List (Nat×zAS)→PM):PM:=resolve zAb depth p k
def zMs (hb:Nat):Nat→PV→(PV→PM)→PM
 | 0,_,_ => .fail
 | n+1,p,k=>match p.ways.find? (fun w=>Nat.blt w.1 hb) with
  | none=>k p
  | some (r,pre) => .deep r pre fun q => .frz r pre (zMs hb n (p.mapW (inl r pre q)) k)
def zDL:Nat:=64
end Go.Eng
namespace Go.Eng
open Go
structure FHint where
 drop:Nat→List Nat:=fun _=>[]
 loopDrop:Nat→List Nat:=fun _=>[]
 mode:List Nat:=[]
 frz:Bool:=false
 intr:Nat:=0
 take:Nat→List Nat:=fun _=>[]
 nils:Bool:=false
 frzs:Nat→List Nat:=fun _=>[]
 ices:Nat→List Nat:=fun _=>[]
abbrev zBh:=FuncId→FHint
instance:Inhabited FHint:=⟨{}⟩
def zEt (m:List (Nat×Nat)):PV→PV
 | .addr r pre i c sh=>match m.lookup r with
  | some h => .addr h pre i c sh
  | none => .bad
 | .bor r pre z lo n=>match m.lookup r with
  | some h => .bor h pre z lo n
  | none => .bad
 | .bsl r pre i c sz ag n=>match m.lookup r with
  | some h => .bsl h pre i c sz ag n
  | none => .bad
 | .bmap r pre=>match m.lookup r with
  | some h => .bmap h pre
  | none => .bad
 | p=>p
def zGw (m:List (Nat×Nat)) (p:PV):PV:=p.mapW (zEt m)
def zNC (p:PV):List Nat:=(p.ways).map (·.1)
structure Arg where
 p:PV
 shared:List (Nat×zAS):=[]
 byref:Bool:=false
def zDW:List Nat→List PV→(List (Bool×PV)→PM)→PM
 | _,[],k=>k []
 | ms,p::ps,k =>
  match ms.headD 0,p with
  | 2,.bor r pre _ 0 n => .deep r pre fun q=>match q with
   | .own sz xs=>bif Nat.ble n xs.length then .wnode r pre .bad (zDW ms.tail ps fun as=>k ((true,.own sz ((xs.drop 0).take n))::as)) else .fail
   | _ => .fail
  | _,p=>zDW ms.tail ps fun as=>k ((false,p)::as)
def zCs:List Nat→List (Bool×PV)→(List Arg→PM)→PM
 | _,[],k=>k []
 | ms,(true,p)::ps,k=>zCs ms.tail ps fun as=>k ({p:=p}::as)
 | ms,(false,p)::ps,k =>
  bif Nat.beq (ms.headD 0) 1 then zCs ms.tail ps fun as=>k ({p:=p,byref:=true}::as)
  else zAk p fun q l=>zCs ms.tail ps fun as=>k ({p:=q,shared:=l}::as)
def zEc:List Nat→List (Bool×PV)→(List Arg→PM)→PM
 | _,[],k=>k []
 | ms,(true,p)::ps,k=>zEc ms.tail ps fun as=>k ({p:=p}::as)
 | ms,(false,p)::ps,k =>
  bif Nat.beq (ms.headD 0) 1 then zEc ms.tail ps fun as=>k ({p:=p,byref:=true}::as)
  else zMs zAb zDL p fun q=>zEc ms.tail ps fun as=>k ({p:=q}::as)
def zNn:List Nat→(List PV→PM)→PM
 | [],k=>k []
 | r::rs,k => .get r fun p=>zNn rs fun ps=>k (p::ps)
def zGo (old new:PV):Bool :=
 match new,old with
 | .own sz _,.own sz' _=>Nat.beq sz sz'
 | .own ..,_=>false
 | .box _,.box _=>true
 | .box _,_=>false
 | .omap _,.omap _=>true
 | .omap _,_=>false
 | .lock _,_=>false
 | .tup _,_=>false
 | _,_=>true
def zNF:List Nat→List PV→List PV→PM→PM
 | r::rs,o::os,p::ps,k=>bif zGo o p then .wnode r [] p (zNF rs os ps k) else .fail
 | [],[],[],k=>k
 | _,_,_,_ => .fail
def zJZ:Nat→List Nat→(List Nat→PM)→PM
 | 0,R,k=>k R
 | n+1,R,k=>zNn R fun ts=>let R':=(R++ts.flatMap zNC).eraseDups;bif Nat.beq R'.length R.length then k R else zJZ n R' k
def zKt:List Nat→PM→PM
 | [],k=>k
 | r::rs,k => .killEx r [] (zKt rs k)
def zNT (as:List Arg):List Nat:=(as.flatMap fun a=>if a.byref then zNC a.p else []).eraseDups
def zHc:List Nat→Bool
 | []=>true
 | r::rs => !rs.contains r&&zHc rs
variable (P:Program) (H:zBh)
def zDw (R:List Nat):List (Nat×Nat):=R.zipIdx.map fun (r,j)=>(r,zAl+j)
def zB9 (R:List Nat):List (Nat×Nat):=R.zipIdx.map fun (r,j)=>(zAl+j,r)
def zPR (d:Option Nat) (f:FuncId) (as:List Arg) (again:PM):PM :=
 zJZ 3 (zNT as) fun R =>
 bif zHc R&&R.all (fun r=>Nat.blt r zAb)&&Nat.ble R.length 1000&&Nat.ble as.length 1000&&(as.flatMap (·.shared)).all (fun x => !R.contains x.1) then
  zNn R fun hid => .call f (as.map fun a=>if a.byref then zGw (zDw R) a.p else a.p) (hid.map (zGw (zDw R))) fun v hid' =>
   bif (as.flatMap (·.shared)).isEmpty||v.free&&zFu hid' then
    zKt R<|zNF R hid (hid'.map (zGw (zB9 R))) (zEY d (zGw (zB9 R) v))
   else again
 else .fail
def zNs (d:Option Nat) (f:FuncId) (args:List PV):PM :=
 zDW (H f).mode args fun bs=>zCs (H f).mode bs fun as=>zPR d f as (zEc (H f).mode bs fun as=>zPR d f as .fail)
def zUX:List PV→Option PV
 | .int k a::r=>(r.foldl (fun m p=>match m,p with
  | some m,.int k' b=>if k=k' then some (if b>m then b else m) else none
  | _,_=>none) (some a)).map (.int k)
 | _=>none
def zVu:List PV→Option PV
 | .int k a::r=>(r.foldl (fun m p=>match m,p with
  | some m,.int k' b=>if k=k' then some (if b<m then b else m) else none
  | _,_=>none) (some a)).map (.int k)
 | _=>none
def zID {α:Type} (x:Option α) (k:α→PM):PM :=
 match x with
 | some a=>k a
 | none => .fail
def zTe:PV→(Bool→PM)→PM
 | .bool b,k=>k b
 | _,_ => .fail
def zHi:PV→(Nat→PM)→PM
 | .int _ n,k=>if 0≤n then k n.toNat else .fail
 | _,_ => .fail
def zAI:Nat:=4294967296
def zGl (r:Nat) (pre:zAS):Nat→List PV→PM→PM
 | _,[],k=>k
 | i,y::ys,k=>zDM r pre i 0 y.cells (.wcells r pre i 0 y.cells (zGl r pre (i+1) ys k))
def zKI (d:Option Nat) (r:Nat) (pre:zAS) (z lo n s:Nat) (xs ys:List PV):PM :=
 bif Nat.blt 0 z&&Nat.beq z s&&Nat.ble (lo+n+ys.length) xs.length&&ys.all (fun y=>y.plain) then zGl r pre (lo+n) ys (put d (.bor r pre z lo (n+ys.length))) else .fail
def zK0 (d:Option Nat) (sz:Nat) (base:PV) (ys:List PV):PM :=
 bif ys.all (fun y=>Nat.beq y.cells.length sz&&y.cells.all fun q=>q.oneCell)&&(zBy ys).isEmpty then
 match base with
 | .bor r pre z lo n => .deep r pre fun q=>match q with
  | .own s xs =>
   bif Nat.beq s sz&&Nat.ble (lo+n) xs.length&&Nat.ble (xs.length+ys.length) zAI then
    bif Nat.beq (lo+n) xs.length then
     bif Nat.beq lo 0 then .wnode r pre .bad (put d (.own sz (xs++ys))) else .fail
    else zKI d r pre z lo n s xs ys
   else .fail
  | _ => .fail
 | .nils _=>bif Nat.ble ys.length zAI then put d (.own sz ys) else .fail
 | _ => .fail
 else .fail
def zNe (x:Operand) (k:List PV→PM):PM :=
 match x with
 | .tmp t => .get t fun p=>match p with
  | .own _ xs => .set t .bad (k xs)
  | _ => .view t fun p=>zGZ p fun xs=>if xs.all (fun x=>x.plain) then k xs else .fail
 | x=>opd x fun p=>zGZ p fun xs=>if xs.all (fun x=>x.plain) then k xs else .fail
def zTg (d:Option Nat) (z:Option PV×Option Nat) (p:PV):PM :=
 match p,d,z.1,z.2 with
 | .bor r pre z lo n,none,some q,some s=>bif Nat.blt 0 z&&Nat.beq z s&&Nat.beq q.cells.length s&&q.plain then zGl r pre lo (List.replicate n q) .ok else .fail
 | .sl [],none,some _,some _ => .ok
 | .nils _,none,some _,some _ => .ok
 | _,_,_,_ => .fail
def zBr (d:Option Nat) (b:Builtin) (ts:List TypeId) (args:List Operand):PM :=
 match b,args,ts with
 | .len,[x],t::_=>opd x fun p=>match P.underlying t with
  | some (.array n _)=>put d (.int .i64 n)
  | some (.slice _)=>match lenOf p with
   | some n=>put d (.int .i64 n)
   | none => .fail
  | _ => .fail
 | .append,[x,y],[t,t2]=>bif (zBX P t2).isNone then .fail else match (zBX P t).bind (szT P),(zBX P t).bind (zHZ P),(zBX P t).bind (zDc P) with
  | some sz,some by_,some z=>if by_≤16384∧z.cells.length=sz then opd x fun base=>zNe y fun ys=>zK0 d sz base ys else .fail
  | _,_,_ => .fail
 | .copy,[x,y],t::_=>zID ((zBX P t).bind (szT P)) fun s=>opd x fun p=>opd y fun q=>zGZ q fun ys=>match p with
  | .bor r pre z lo n=>bif Nat.beq z s&&Nat.blt 0 z&&Nat.ble ys.length n&&ys.all (fun y=>y.plain&&Nat.beq y.cells.length s) then zGl r pre lo ys (put d (.int .i64 ys.length)) else .fail
  | _ => .fail
 | .clear,[x],t::_=>opd x fun p=>zTg d ((zBX P t).bind (zDc P),(zBX P t).bind (szT P)) p
 | .max,xs,_=>zSI xs fun ps=>match zUX ps with
  | some v=>put d v
  | none => .fail
 | .min,xs,_=>zSI xs fun ps=>match zVu ps with
  | some v=>put d v
  | none => .fail
 | _,_,_ => .fail
def zFs (place:Nat→Option (Nat×Nat)):List PV→List (Nat×PV)→Option (List PV)
 | z,[]=>some z
 | z,(i,v)::r=>match place i with
  | some (off,n)=>if v.cells.length=n∧off+n≤z.length∧v.whole=true then zFs place (z.take off++v.cells++z.drop (off+n)) r else none
  | none=>none
def zOI (place:Nat→Option (Nat×Nat)) (z:List PV) (ps:List (Nat×Operand)) (k:List PV→PM):PM :=
 zSr (ps.map (·.2)) fun vs=>match zFs place z ((ps.map (·.1)).zip vs) with
  | some cs=>k cs
  | none => .fail
def zMr (n:Nat) (z:PV) (ps:List (Nat×PV)):List PV :=
 ps.foldl (fun xs (i,v)=>xs.set i v) (List.replicate n z)
def zKJ (t:TypeId) (i:Nat):Option Field :=
 match P.underlying t with
 | some (.struct fs)=>fs[i]?
 | _=>none
def zOu (p:PV) (off:Nat) (sh:Option Nat):Option PV :=
 match p with
 | .ref q=>match sub q off sh with
  | some x=>bif sh.isSome||x.oneCell then some (.ref x) else none
  | none=>none
 | .addr r pre i c (some _)=>some (.addr r pre i (c+off) sh)
 | _=>none
def zDY (p:PV) (off:Nat) (sh:Option Nat):Option PV :=
 match sh with
 | some 0=>none
 | sh=>zOu p off sh
def zRA (x:Option Operand) (n:Nat) (k:Nat→PM):PM :=
 match x with
 | some x=>opd x fun p=>zHi p k
 | none=>k n
def zOb (d:Option Nat) (s:Nat) (p:PV) (l h:Nat):PM :=
 match p with
 | .sl xs=>bif Nat.ble l h&&Nat.ble h xs.length&&xs.all (fun x=>Nat.beq x.cells.length s) then put d (.sl ((xs.drop l).take (h-l))) else .fail
 | .bor r pre z a n =>
  bif Nat.beq z s&&Nat.ble l h then
   bif Nat.ble h n then put d (bif Nat.beq l 0||Nat.blt l h then .bor r pre z (a+l) (h-l) else .sl [])
   else .deep r pre fun q=>match q with
    | .own _ xs=>bif Nat.ble (a+h) xs.length then put d (bif Nat.beq l 0||Nat.blt l h then .bor r pre z (a+l) (h-l) else .sl []) else .fail
    | _ => .fail
  else .fail
 | _ => .fail
def zRm (d:Option Nat) (n s:Nat) (sh:Option Nat) (p:PV) (l h:Nat):PM :=
 bif Nat.ble l h&&Nat.ble h n&&(Nat.beq l 0||Nat.blt l n) then
  match p with
  | .addr r pre i c _=>put d (.bsl r pre i (c+l*s) s sh.isSome (h-l))
  | .ref (.agg cs)=>bif Nat.ble (n*s) cs.length&&zCg sh.isSome s (h-l) ((cs.drop (l*s)).take ((h-l)*s))&&(zBy cs).isEmpty then put d (.sl (zCk sh.isSome s (h-l) ((cs.drop (l*s)).take ((h-l)*s)))) else .fail
  | _ => .fail
 else .fail
def zJo (d:Option Nat) (t:TypeId) (x:Operand) (lo hi mx:Option Operand):PM :=
 match mx with
 | some m=>opd x fun p=>match p,P.underlying t with
  | .bor _ _ _ _ n,some (.slice e)=>zID (szT P e) fun _=>zRA (some m) n fun m=>match hi with
   | some hi=>zRA (some hi) n fun h=>zRA lo 0 fun l=>bif Nat.ble l h&&Nat.ble h m&&Nat.ble m n then put d .bad else .fail
   | none => .fail
  | _,_ => .fail
 | none=>opd x fun p=>match P.underlying t with
  | some (.array n e)=>match szT P e,shT P e with
   | some s,some sh=>zRA hi n fun h=>zRA lo 0 fun l=>zRm d n s sh p l h
   | _,_ => .fail
  | some (.slice e)=>match szT P e,lenOf p with
   | some s,some n=>zRA hi n fun h=>zRA lo 0 fun l=>zOb d s p l h
   | _,_ => .fail
  | _ => .fail
def zM3 (p:PV) (k:PV→PM) (k2:PM):PM :=
 match p with
 | .bor r pre _ lo n => .deep r pre fun q=>match q with
  | .own sz xs=>bif Nat.beq lo 0&&Nat.beq n xs.length then .wnode r pre .bad (k (.own sz xs)) else k2
  | _=>k2
 | .bmap r pre => .deep r pre fun q=>match q with
  | .omap es => .wnode r pre .bad (k (.omap es))
  | _=>k2
 | p=>k p
def zMq (p:PV) (k:PV→PM):PM:=zM3 p k (zMs zAb zDL p k)
def zIV:List PV→(List PV→PM)→PM
 | [],k=>k []
 | p::ps,k=>zM3 p (fun q=>zIV ps fun qs=>k (q::qs)) .fail
def zFI (tk:Bool) (p:PV) (k:PV→PM):PM :=
 match p with
 | .agg cs=>bif tk then zIV cs fun cs=>k (.agg cs) else bif cs.any (fun c=>match c with | .bor .. | .bmap .. | .bsl .. => true | _=>false) then zMs zAb zDL p k else k p
 | .bsl .. => zMs zAb zDL p k
 | .bor .. | .bmap .. => bif tk then zMq p k else zMs zAb zDL p k
 | p=>k p
def zF8 (tk:Bool):List PV→(List PV→PM)→PM
 | [],k=>k []
 | p::ps,k=>zFI tk p fun q=>zF8 tk ps fun qs=>k (q::qs)
def zPQ (r:Nat) (pre:zAS) (i c:Nat):PV→Option Nat
 | .bor r' q z 0 n=>if r'=r&&q=pre++[(i,c)] then some n else none
 | _=>none
def zH8 (r:Nat) (pre:zAS) (i c:Nat) (v:PV):PM :=
 bif (!v.heavy||v.ways.all (fun w => !(zAQ r pre w.1 w.2&&Nat.blt pre.length w.2.length)))&&v.cells.all (fun q=>q.oneCell) && !v.cells.isEmpty then zDM r pre i c v.cells (.wcells r pre i c v.cells .ok) else .fail
def zIl (tk:Bool) (r:Nat) (pre:zAS) (v:PV) (k:PV→PM):PM :=
 bif pre.isEmpty && !tk then .view r fun q=>(match q with | .addr .. => k v | _=>zFI tk v k) else zFI tk v k
def zHR (tk:Bool) (r:Nat) (pre:zAS) (i c:Nat) (v:PV):PM :=
 match zPQ r pre i c v with
 | some m => .deep r (pre++[(i,c)]) fun q=>match q with
  | .own s xs=>bif Nat.ble m xs.length then .wnode r (pre++[(i,c)]) .bad (zH8 r pre i c (.own s ((xs.drop 0).take m))) else .fail
  | _ => .fail
 | none=>zIl tk r pre v fun v=>zH8 r pre i c v
def zNO (fz tk:Bool) (t:TypeId) (a x:Operand):PM :=
 opd a fun pa=>match pa,x with
 | .addr r pre i c _,.const (.slice none 0 0)=>zID ((zBX P t).bind (szT P)) fun s=>if szT P t=some 1 then zHR tk r pre i c (.own s []) else .fail
 | pa,x=>match pa,shT P t,szT P t with
 | .addr r pre i c _,some sh,some n=>(bif fz&&tk then opd x else zOM x) fun v =>
  bif Nat.beq v.cells.length n&&v.isAgg==sh.isSome then zHR (tk && !fz) r pre i c (bif fz && !tk then zA0 v else v) else .fail
 | _,_,_ => .fail
def zRF (d:Option Nat) (t:TypeId):PM :=
 match (zBX P t).bind (szT P) with
 | some s=>put d (.own s [])
 | none => .fail
def zLI (d:Option Nat) (t:TypeId) (s:Nat):PM :=
 match P.underlying t,d with
 | some (.tuple ts),some d' => .get s fun m=>match m with
  | .tup ps=>if ps.length=ts.size∧ts.size≤16 then .set d' .bad (zFT s d' 0 ts.size) else .fail
  | _ => .fail
 | _,_=>opd (.tmp s) (put d)
def zQO (d:Option Nat) (t:TypeId) (x:Operand):PM :=
 match x with
 | .const (.slice none 0 0)=>zRF P d t
 | .tmp s=>zLI P d t s
 | x=>opd x (put d)
def zFU (d:Option Nat) (p:PV):PM :=
 match d,p with
 | some d',.bor r [] z lo n=>if r=d' then .get r fun root=>match root with
   | .own sz xs=>bif Nat.ble (lo+n) xs.length then .kill r [] (.set r (.own sz ((xs.drop lo).take n)) .ok) else .fail
   | _ => .fail
  else put d p
 | _,_=>put d p
def zF3 (tk nl:Bool) (d:Option Nat) (t:TypeId) (x:Operand):PM :=
 match x with
 | .const (.slice none 0 0)=>bif nl then zID ((zBX P t).bind (szT P)) fun s=>put d (.nils s) else zRF P d t
 | x=>zOM x fun p=>bif tk then zMq p (zFU d) else zFU d p
def zTm (d:Option Nat) (c a b:Operand):PM:=opd c fun p=>zTe p fun t=>opd (if t then a else b) (put d)
def zP2 (t:TypeId):PV→PV
 | .nils k=>match (zBX P t).bind (szT P) with
  | some s => .own s []
  | none => .nils k
 | z=>z
def zQJ (d:Option Nat) (t:TypeId):PM:=zID (zDc P t) fun z=>put d (.box (zP2 P t z))
def zST (d:Option Nat) (t:TypeId) (x:Operand):PM:=zOM x fun p=>match shT P t,szT P t with
 | some sh,some n=>if p.cells.length=n&&p.isAgg=sh.isSome&&p.whole then put d (.box p) else .fail
 | _,_ => .fail
def zNd (d:Option Nat) (t:TypeId) (ps:List (Nat×Operand)):PM :=
 match P.underlying t,(zDc P t).map PV.cells with
 | some (.struct fs),some z=>bif fs.all (fun f=>(szT P f.type).isSome) then zOI (fun i=>(fs[i]?).bind fun f=>(szT P f.type).map fun n=>(f.offset,n)) z ps (fun cs=>put d (.agg cs)) else .fail
 | some (.array _ e),some z=>zID (szT P e) fun n=>zOI (fun i=>some (i*n,n)) z ps fun cs=>put d (.agg cs)
 | _,_ => .fail
def zU7:Option PV→Option Nat
 | some (.own s [])=>some s
 | _=>none
def zUQ (nz:Option Nat) (x:Operand) (k:PV→PM):PM :=
 match nz,x with
 | some s,.const (.slice none 0 0)=>k (.own s [])
 | _,x=>zOM x k
def zOV (nz:Option Nat):List Operand→(List PV→PM)→PM
 | [],k=>k []
 | x::xs,k=>zUQ nz x fun p=>zOV nz xs fun ps=>k (p::ps)
def zDH (tk:Bool) (d:Option Nat) (t:TypeId) (n:Nat) (ps:List (Nat×Operand)):PM :=
 match zBX P t with
 | some e=>match szT P e,zDc P e with
  | some s,some z=>if n*s≤65536&&Nat.beq z.cells.length s&&ps.all (fun x=>x.1<n) then zOV (zU7 (zDc P e)) (ps.map (·.2)) fun vs=>zF8 tk vs fun vs =>
    if (zBy vs).isEmpty&&vs.all (fun v=>v.cells.length=s&&v.isAgg=z.isAgg&&v.whole) then put d (.own s (zMr n z ((ps.map (·.1)).zip vs))) else .fail
   else .fail
  | _,_ => .fail
 | none => .fail
def zPr (d:Option Nat) (sh:Option Nat) (p:PV):PM :=
 match p with
 | .ref q=>if q.isAgg=sh.isSome&&q.cells.length=sh.getD 1 then put d q else .fail
 | .addr r pre i c _=>zLM r pre i c sh (put d)
 | _ => .fail
def zN8 (tk:Bool) (d:Option Nat) (t:TypeId) (a:Operand):PM:=zID (shT P t) fun sh=>opd a fun p =>
 bif tk then (match p with
  | .addr r pre i c _=>zLM r pre i c sh fun v=>zMs zAb zDL v (put d)
  | p=>zPr d sh p) else zPr d sh p
def zVV (d:Option Nat) (p:PV):PM :=
 match p with
 | .addr .. | .ref _ | .func .. | .yld _=>put d p
 | _ => .fail
def zSF (d:Option Nat) (op:BinOp) (t:TypeId) (x y:Operand):PM:=opd x fun p=>opd y fun q=>zID (zNB P op t p q) (put d)
def unV (d:Option Nat) (op:UnOp) (p:PV):PM :=
 match op,p with
 | .not,.bool b=>put d (.bool !b)
 | .neg,.int k n=>put d (.int k (k.wrap (0-n)))
 | _,_ => .fail
def zRl (d:Option Nat) (t:TypeId) (p:PV):PM :=
 match P.underlying t,p with
 | some (.int k),.int _ n=>put d (.int k (k.wrap n))
 | _,_ => .fail
def zJ1 (d:Option Nat) (f:FuncId) (first caps:List Operand):PM:=zSI first fun a=>zSI caps fun b=>put d (.func f a b)
def zFh (d:Option Nat) (t:TypeId) (l c:Operand):PM :=
 opd l fun l=>zHi l fun l=>opd c fun c=>zHi c fun c=>match zBX P t with
 | some e=>match zDc P e,szT P e,zHZ P e with
  | some z,some s,some b=>if l≤c∧c≤zAI∧b≤16384∧z.cells.length=s then put d (.own s (List.replicate l z)) else .fail
  | _,_,_ => .fail
 | none => .fail
def zJf (d:Option Nat) (t:TypeId) (x:Operand) (i:Nat):PM :=
 opd x fun p=>zID (zKJ P t i) fun f=>zID (shT P f.type) fun sh=>zID (zDY p f.offset sh) (put d)
def zRc (d:Option Nat) (t:TypeId) (x:Operand) (i:Nat):PM :=
 opd x fun p=>zID (zKJ P t i) fun f=>zID (shT P f.type) fun sh=>zID (sub p f.offset sh) (put d)
def zNL (d:Option Nat) (n:Nat) (e:TypeId) (p:PV) (i:Nat):PM :=
 match szT P e,shT P e with
 | some s,some sh=>if i<n then zID (zDY p (i*s) sh) (put d) else .fail
 | _,_ => .fail
def zRb (d:Option Nat) (e:TypeId) (p:PV) (i:Nat):PM :=
 match p with
 | .sl xs=>zID (xs[i]?) fun x=>if szT P e=some x.cells.length then put d (.ref x) else .fail
 | .bor r pre z lo n=>match shT P e with
  | some sh=>if i<n∧szT P e=some z then put d (.addr r pre (lo+i) 0 sh) else .fail
  | none => .fail
 | .bsl r pre j c s ag n=>if i<n∧szT P e=some s then put d (.addr r pre j (c+i*s) (if ag then some s else none)) else .fail
 | _ => .fail
def zE2 (d:Option Nat) (t:TypeId) (x i:Operand):PM :=
 opd x fun p=>opd i fun i=>zHi i fun i=>match P.underlying t with
 | some (.array n e)=>zNL P d n e p i
 | some (.slice e)=>zRb P d e p i
 | _ => .fail
def zK6 (d:Option Nat) (t:TypeId) (x i:Operand):PM :=
 opd x fun p=>opd i fun i=>zHi i fun i=>match P.underlying t with
 | some (.array n e)=>match szT P e,shT P e with
  | some s,some sh=>if i<n then zID (sub p (i*s) sh) (put d) else .fail
  | _,_ => .fail
 | _ => .fail
def PV.flat:PV→Bool
 | .agg cs=>cs.all PV.num
 | p=>p.num
def PV.lone0:PV→Bool
 | .int .. | .bool .. | .nilp | .nilf | .nilm | .nn | .nils _ | .sl .. | .map .. => true
 | _=>false
def PV.lone:PV→Bool
 | .agg cs=>cs.all PV.lone0
 | p=>p.lone0
def zSc (ok:TypeId→PV→Bool) (sh:TypeId→Option (Option Nat)) (p:PV):List Field→Bool
  | []=>true
  | f :: fs => (if f.name = "_" then true else match sh f.type with
    | some s=>match sub p f.offset s with
      | some a=>ok f.type a
      | none=>false
    | none=>false)&&zSc ok sh p fs
def zSS (ok:PV→Bool) (sh:Option Nat) (sz:Nat) (p:PV):Nat→Nat→Bool
 | _,0=>true
 | i,n+1=>(match sub p (i*sz) sh with
  | some a=>ok a
  | none=>false)&&zSS ok sh sz p (i+1) n
def zPx:Nat→TypeId→PV→Bool
 | 0,_,_=>false
 | n + 1,t,p =>
  match P.underlying t,p with
  | some (.int _),.int .. => true
  | some .bool,.bool _=>true
  | some (.struct fs),.agg xs=>zSc (zPx n) (shT P) (.agg xs) fs.toList
  | some (.array len e),.agg xs=>match szT P e,shT P e with
   | some sz,some sh=>zSS (zPx n e) sh sz (.agg xs) 0 len
   | _,_=>false
  | _,_=>false
def zDE (kt:TypeId) (key:PV):List (PV×PV)→Nat→Option (Option Nat)
 | [],_=>some none
 | (k,_)::es,i=>match eqT P 20 kt key k with
  | some true=>match zFw key.cells k.cells with
   | some true=>some (some i)
   | _=>none
  | some false=>zDE kt key es (i+1)
  | none=>none
def zIC (d:Option Nat) (kt:TypeId) (z key:PV) (ok:Bool) (es:List (PV×PV)):PM :=
 match zDE P kt key es 0 with
 | some (some i)=>match es[i]? with
  | some (_,v)=>bif v.lone then zEY d (if ok then .tup [v,.bool true] else v) else .fail
  | none => .fail
 | some none=>zEY d (if ok then .tup [z,.bool false] else z)
 | none => .fail
def zRV (d:Option Nat) (kt:TypeId) (z key:PV) (ok:Bool) (m:PV):PM :=
 match m with
 | .nilm=>zIC P d kt z key ok []
 | .map es=>zIC P d kt z key ok es
 | .bmap r pre => .deep r pre fun q=>match q with
  | .omap es=>zIC P d kt z key ok es
  | _ => .fail
 | _ => .fail
def zIo (d:Option Nat) (t:TypeId) (m x:Operand) (ok:Bool):PM :=
 opd m fun m=>opd x fun key=>match P.underlying t with
 | some (.map kt e)=>bif zPx P 20 kt key then zID (zDc P e) fun z=>bif z.lone then zRV P d kt z key ok m else .fail else .fail
 | _ => .fail
def zL0 (kt:TypeId) (key v m:PV):PM :=
 match m with
 | .bmap r pre=>bif v.lone then .deep r pre fun q=>match q with
  | .omap es=>match zDE P kt key es 0 with
   | some (some i) => .wnode r pre (.omap (es.modify i fun _=>(key,v))) .ok
   | some none => .wnode r pre (.omap (es++[(key,v)])) .ok
   | none => .fail
  | _ => .fail else .fail
 | _ => .fail
def zFe (t:TypeId) (m x y:Operand):PM:=opd m fun m=>opd x fun key=>match P.underlying t with
 | some (.map kt _)=>bif zPx P 20 kt key&&key.flat then zOM y fun v=>zMs zAb zDL v fun v=>zL0 P kt key (zA0 v) m else .fail
 | _ => .fail
def zJq (d:Option Nat) (s i:Nat):PM := .get s fun m=>match m with
 | .tup ps=>bif Nat.blt i ps.length then .get (zBq s i) fun p=>bif p.heavy then .set (zBq s i) .bad (put d p) else put d p else .fail
 | _ => .fail
def zSw (d:Option Nat) (args:List Operand) (g:PV):PM :=
 match g with
 | .func g first caps=>zSI args fun as=>zNs H d g (first++as++caps)
 | _ => .fail
def zKv (d:Option Nat) (c:Call):PM :=
 match c.callee with
 | .builtin b=>zBr P d b c.argTypes.toList c.args.toList
 | .value f=>opd f (zSw H d c.args.toList)
 | _ => .fail
def opM (fz tk nl:Bool) (o:Oper):PM :=
 match o.op with
 | .move x=>zQO P o.dst o.type x
 | .assign x=>zF3 P tk nl o.dst o.type x
 | .pick c a b=>zTm o.dst c a b
 | .alloc t=>zQJ P o.dst t
 | .box t x=>zST P o.dst t x
 | .build t ps=>zNd P o.dst t ps.toList
 | .buildSlice t n ps=>zDH P tk o.dst t n ps.toList
 | .load t a=>zN8 P tk o.dst t a
 | .store t a x=>zNO P fz tk t a x
 | .nilCheck x=>opd x (zVV o.dst)
 | .binOp op t x y _=>zSF P o.dst op t x y
 | .unOp op _ x=>opd x (unV o.dst op)
 | .convert _ t x=>opd x (zRl P o.dst t)
 | .makeFunc (.func f) first caps=>zJ1 o.dst f first.toList caps.toList
 | .makeMap _ none=>put o.dst (.omap [])
 | .makeSlice t l c=>zFh P o.dst t l c
 | .slice t x lo hi mx=>zJo P o.dst t x lo hi mx
 | .fieldAddr t x i=>zJf P o.dst t x i
 | .field t x i=>zRc P o.dst t x i
 | .indexAddr t x i=>zE2 P o.dst t x i
 | .index t x i=>zK6 P o.dst t x i
 | .lookup t m x ok=>zIo P o.dst t m x ok
 | .mapUpdate t m x y=>zFe P t m x y
 | .extract (.tmp s) i=>zJq o.dst s i
 | .call c=>zKv P H o.dst c
 | _ => .fail
def zFr (ops:Array Oper) (fz tk nl:Bool) (o:Oper):PM :=
 match o.guard with
 | none=>opM P H fz tk nl o
 | some (j,want)=>match (ops[j]?).bind (·.dst) with
  | some t => .get t fun p=>match p with
   | .bool b=>if b=want then opM P H fz tk nl o else put o.dst .und
   | .und=>put o.dst .und
   | _ => .fail
  | none => .fail
structure Log where
 xs:List (List PV)
 k:Int
 at_:Nat
 deriving Inhabited
def zPn (e:Env):Operand→PV
 | .tmp t=>view t (e.get t)
 | .const v=>zEg v
 | _ => .bad
def zCa (e:Env) (o:Oper):Option (Nat×List PV) :=
 match o.op with
 | .call c=>match c.callee with
  | .value (.tmp t)=>match e.get t with
   | .yld h=>some (h,c.args.toList.map (zPn e))
   | _=>none
  | _=>none
 | _=>none
def zLd (ops:Array Oper) (e:Env) (o:Oper):Option Bool :=
 match o.guard with
 | none=>some true
 | some (j,want)=>match (ops[j]?).bind (·.dst) with
  | some t=>match e.get t with
   | .bool b=>some (b==want)
   | .und=>some false
   | _=>none
  | none=>none
def zBP (orc:zAF) (ops:Array Oper) (o:Oper) (h:Nat) (args:List PV) (l:Log) (e:Env):Option (Env×Option Log) :=
 match zLd ops e o with
 | some true=>bif args.all PV.flat&&l.k != 0&&Nat.beq h l.at_ then
   (bif l.k==1 then (put o.dst (.bool false)).run orc (e.forget zAb) else (put o.dst (.bool true)).run orc e).map fun e'=>(e',some ⟨l.xs++[args],l.k-1,l.at_⟩)
  else none
 | some false=>((put o.dst .und).run orc e).map fun e'=>(e',some l)
 | none=>none
def zCN (orc:zAF) (fz tk nl:Bool) (ops:Array Oper) (o:Oper) (e:Env) (lg:Option Log):Option (Env×Option Log) :=
 match lg with
 | none=>((zFr P H ops fz tk nl o).run orc e).map fun e'=>(e',none)
 | some l=>match zCa e o with
  | some (h,args)=>zBP orc ops o h args l e
  | none=>((zFr P H ops fz tk nl o).run orc e).map fun e'=>(e',some l)
def zEi (orc:zAF) (fz tk nl:Bool) (ops:Array Oper) (o:Oper) (e:Env) (lg:Option Log):Option (Env×Option Log×Tok) :=
 match lg with
 | none=>((zFr P H ops fz tk nl o).runT orc e).map fun x=>(x.1,none,x.2)
 | some l=>match zCa e o with
  | some (h,args)=>(zBP orc ops o h args l e).map fun x=>(x.1,x.2,{all:=true})
  | none=>((zFr P H ops fz tk nl o).runT orc e).map fun x=>(x.1,some l,x.2)
def zBa (orc:zAF) (fzs tks:List Nat) (nl:Bool) (ops:Array Oper):List Oper→Nat→Env→Option Log→Option (Env×Option Log)
 | [],_,e,lg=>some (e,lg)
 | o::l,i,e,lg=>match zCN P H orc (fzs.contains i) (tks.contains i) nl ops o e lg with
  | some (e',lg')=>zBa orc fzs tks nl ops l (i+1) e' lg'
  | none=>none
def zHO (acc:List Nat) (o:Oper):Nat:=o.after.toList.foldl (fun s e=>if Region.binds .any e then s ||| 2 ^ e.on ||| acc.getD e.on 0 else s) 0
def zFV (b:Nat) (t:Tok):Nat→List Tok→Bool
 | _,[]=>true
 | j,u::us=>(b.testBit j || !zPp u t)&&zFV b t (j+1) us
def zCo (orc:zAF) (fzs tks:List Nat) (nl:Bool) (ops:Array Oper):List Oper→Nat→List Nat→List Tok→Env→Option Log→Option (Env×Option Log)
 | [],_,_,_,e,lg=>some (e,lg)
 | o :: l,i,acc,ts,e,lg =>
  match zEi P H orc (fzs.contains i) (tks.contains i) nl ops o e lg with
  | some (e',lg',t) =>
   bif o.after.toList.all (fun e => !Region.binds .any e||Nat.blt e.on i)&&zFV (zHO acc o) t 0 ts then zCo orc fzs tks nl ops l (i+1) (acc++[zHO acc o]) (ts++[t]) e' lg' else none
  | none=>none
inductive X where
 | norm | ex (id:Nat) | ret
 deriving DecidableEq
def zMv (l:List Nat) (s:Nat):Bool:=l.contains (if 2000000≤s then (s-2000000) / 16 else s)
def Env.drop (e:Env) (l:List Nat):Env :=
 e.filter fun x => !zMv l x.1
def Env.put (e:Env) (k:Nat) (v:PV):Env :=
 match v with
 | .bad=>e.filter fun x => !Nat.beq x.1 k
 | v=>e.set k v
def Env.norm:Env→Env
 | []=>[]
 | (k,v)::e=>(Env.norm e).put k v
def zAT:Code→Nat
 | .region id _ _=>id
 | .seq a _=>zAT a
 | .block _ b=>zAT b
 | .loop b=>zAT b
 | _=>0
def zBK:Code→List Nat
 | .region _ ops _=>ops.toList.filterMap (·.dst)
 | .seq a b=>zBK a++zBK b
 | .cond _ a b=>zBK a++zBK b
 | .block _ b=>zBK b
 | .loop b=>zBK b
 | .scope b=>zBK b
 | _=>[]
def zCq:List Tmp→List PV→Env→Option Env
 | [],[],e=>some e
 | t::ts,v::vs,e=>if (e.get t).heavy then none else zCq ts vs (e.set t v)
 | _,_,_=>none
def zEj:List Nat→Env→Option Env
 | [],e=>some e
 | r::R,e=>bif Nat.blt r zAb then match e.frz r [] with
  | some e'=>zEj R e'
  | none=>none
  else none
def zUm (R:List Nat) (e:Env):Env :=
 match zEj R e with
 | some e'=>e'
 | none=>e
def zCT (e:Env) (R:List Nat):List Nat:=R++(e.filter fun x=>x.2.heavy && !R.contains x.1&&x.2.ways.any fun w=>R.contains w.1).map (·.1)
def zGc (e:Env) (R:List Nat):Bool:=R.all fun r=>(e.get r).ways.all fun w=>R.contains w.1
def after (nt:Nat) (R ds:List Nat) (e0 e:Env):Env:=e0.map fun x =>
 (x.1,bif R.contains x.1 || !x.2.heavy&&x.2.ways.all (fun w=>R.contains w.1) then x.2 else bif !(Nat.blt x.1 nt && !ds.contains x.1||Nat.ble zAl x.1&&Nat.blt x.1 zAA) then .bad else bif (R.isEmpty||(e.get x.1).free) && !(e.get x.1).isTup then e.get x.1 else .bad)
def zC2 (nt:Nat) (run:Code→Env→Option (X×Env)) (ps:List Tmp) (assign body:Code) (R ds:List Nat):List (List PV)→Env→Nat→Option (Option (Nat×X)×Env)
 | [],e,_=>some (none,e)
 | x :: xs,e,j =>
  let round (e:Env):Option (X×Env):=match zCq ps x e with
   | some e1=>match run assign e1 with
    | some (.norm,e2)=>run body e2
    | _=>none
   | none=>none
  match round e with
  | some (.norm,e3)=>match R with
   | []=>zC2 nt run ps assign body R ds xs (after nt [] ds e e3) (j+1)
   | r :: R=>match (bif zGc e (zCT e (r::R)) then zEj (zCT e (r::R)) e else none) with
    | some e1=>match round e1 with
     | some (.norm,e3)=>zC2 nt run ps assign body (r::R) ds xs (after nt (zCT e (r::R)) ds e e3) (j+1)
     | _=>none
    | none=>none
  | some (r,e3)=>some (some (j+1,r),after nt [] ds e e3)
  | none=>none
def zEH (e:Env) (t:Nat):Option (FuncId×List PV×List PV×List Nat) :=
 match (zAk (view t (e.get t)) fun q l => .set 0 (.tup [q]) (.set 1 (.tup (l.map fun x => .int .i64 x.1)) .ok)).run (fun _ _ _=>none) e with
 | some e'=>match e'.get 0,e'.get 1 with
  | .tup [.func g first caps],.tup l=>some (g,first,caps,(l.filterMap fun | .int _ n=>some n.toNat | _=>none).eraseDups)
  | _,_=>none
 | none=>none
abbrev zCP:=FuncId→List PV→Nat→List PV→Int→Option (List (List PV))
abbrev All:=(Nat→Option (List (List PV)))→Option (List (List PV))
def zHn (nt:Nat) (yo:zCP) (al:All) (run:Code→Env→Option (X×Env)) (t:Tmp) (ps:List Tmp) (assign body:Code) (e:Env):Option (X×Env) :=
 match zEH e t with
 | some (g,first,caps,R) =>
  match al (fun i=>yo g first i caps (-1)) with
  | some xs=>match zC2 nt run ps assign body R (ps++zBK assign++zBK body) xs e 0 with
   | some (none,e')=>some (.norm,e')
   | some (some (j,_),_)=>match al (fun i=>yo g first i caps j) with
    | some ys=>match zC2 nt run ps assign body R (ps++zBK assign++zBK body) ys e 0 with
     | some (some (j',r),e')=>if j'=j∧ys.length=j then some (r,e') else none
     | _=>none
    | none=>none
   | none=>none
  | none=>none
 | none=>none
def exec (orc:zAF) (yo:zCP) (al:All) (nt:Nat) (h:FHint):Nat→Code→Env→Option Log→Option (X×Env×Option Log)
 | 0,_,_,_=>none
 | n + 1,c,e,lg=>match c with
  | .skip=>some (.norm,e,lg)
  | .region id ops draw=>match (if draw then zCo P H orc (h.frzs id) (h.take id) h.nils ops ops.toList 0 [] [] e lg else zBa P H orc (h.frzs id) (h.take id) h.nils ops ops.toList 0 e lg) with
   | some (e',lg')=>some (.norm,(e'.drop (h.drop id)).norm,lg')
   | none=>none
  | .seq a b=>match exec orc yo al nt h n a e lg with
   | some (.norm,e',lg')=>exec orc yo al nt h n b e' lg'
   | r=>r
  | .cond c a b=>match c with
   | .tmp t=>match e.get t with
    | .bool true=>exec orc yo al nt h n a e lg
    | .bool false=>exec orc yo al nt h n b e lg
    | _=>none
   | .const (.bool true)=>exec orc yo al nt h n a e lg
   | .const (.bool false)=>exec orc yo al nt h n b e lg
   | _=>none
  | .block id b=>match exec orc yo al nt h n b e lg with
   | some (.ex id',e')=>some (if id'=id then .norm else .ex id',e')
   | r=>r
  | .loop b=>match exec orc yo al nt h n b (e.drop (h.loopDrop (zAT b))) lg with
   | some (.norm,e',lg')=>exec orc yo al nt h n (.loop b) e' lg'
   | r=>r
  | .exit id=>some (.ex id,zUm (h.ices id) e,lg)
  | .ret=>some (.ret,e,lg)
  | .label _=>some (.norm,e,lg)
  | .scope b=>exec orc yo al nt h n b e lg
  | .rangeFunc (.tmp t) ps assign body=>match lg with
   | none=>(zHn nt yo al (fun c e=>match exec orc yo al nt h n c e none with | some (x,e',none)=>some (x,e') | _=>none) t ps.toList assign body e).map fun x=>(x.1,x.2,none)
   | some _=>none
  | _=>none
def zQm (p:PV) (k:PV→PM) (k2:PM):PM :=
 match p with
 | .bor r pre _ lo n => .deep r pre fun q=>match q with
  | .own sz xs=>bif Nat.ble (lo+n) xs.length then .wnode r pre .bad (k (.own sz ((xs.drop lo).take n))) else k2
  | _=>k2
 | .addr r pre 0 0 _ => .deep r pre fun q=>match q with
  | .box q => .wnode r pre .bad (k (.box q))
  | _=>k2
 | .bmap r pre => .deep r pre fun q=>match q with
  | .omap es => .wnode r pre .bad (k (.omap es))
  | _=>k2
 | _=>k2
def zFQ (frz:Bool) (p:PV) (k:PV→PM):PM :=
 bif frz||p.ways.any (fun w=>Nat.ble zAl w.1) then zMs zAl zDL p k else zQm p k (zMs zAl zDL p k)
def zCu (frz:Bool):List PV→(List PV→PM)→PM
 | [],k=>k []
 | p::ps,k=>zFQ frz p fun q=>zCu frz ps fun qs=>k (q::qs)
def zGE (frz:Bool) (p:PV) (k:PV→PM):PM :=
 match p with
 | .agg cs=>zCu frz cs fun qs=>k (.agg qs)
 | p=>zFQ frz p k
def zCH (frz:Bool):Nat→List ResultVar→PM
 | _,[] => .ok
 | j,.tmp t::rs => .view t fun p=>zGE frz p fun q=>lay (zAA+j) q (zCH frz (j+1) rs)
 | j,.cell a t::rs=>zID (shT P t) fun sh => .view a fun p=>match p with
  | .addr r pre i c _=>zLM r pre i c sh fun v=>zGE frz v fun q=>lay (zAA+j) q (zCH frz (j+1) rs)
  | _ => .fail
def zUb (e:Env) (n:Nat):PV :=
 if n=1 then e.get zAA else .tup ((List.range n).map fun j=>e.get (zAA+j))
def zA5 (args hid:List PV):Env :=
 (args.zipIdx.map fun (p,i)=>(i,p))++hid.zipIdx.map fun (p,j)=>(zAl+j,p)
def zUL (xs:List PV):Option (List Int):=xs.mapM fun | .int .i64 n=>some n | _=>none
def zDQ (fn:Func) (w:Nat) (args hid:List PV):Option (PV×List PV) :=
 match w,args,hid with
 | 1,[.sl xs],[]=>match (fn.resultTypes[0]?).bind (fun t=>(zBX P t).bind (szT P)) with
  | some sz=>if xs.all (fun x=>x.plain&&x.cells.length=sz)&&xs.length≤zAI then some (.own sz xs,[]) else none
  | none=>none
 | 1,[.nils _],[]=>match (fn.resultTypes[0]?).bind (fun t=>(zBX P t).bind (szT P)) with
  | some sz=>some (.own sz [],[])
  | none=>none
 | 2,[.bor r pre z lo n],root::ws=>match zAC root pre with
  | some (.own sz xs)=>match zUL ((xs.drop lo).take n) with
   | some is=>match zAv (fun _=>some (.own sz (xs.take lo++(is.mergeSort (fun a b=>decide (a≤b))).map (.int .i64)++xs.drop (lo+n)))) root pre with
    | some root'=>if r=zAl&&lo+n≤xs.length then some (.tup [],root'::ws) else none
    | none=>none
   | none=>none
  | _=>none
 | 3,[.own sz xs,.int _ i,.int _ j],[] =>
  bif decide (0≤i)&&decide (i≤j)&&Nat.ble j.toNat xs.length then some (.own sz (xs.take i.toNat++xs.drop j.toNat),[]) else none
 | 5,[.int .u64 n],[]=>some (.int .i64 (if n≤0 then 0 else Nat.log2 n.toNat+1),[])
 | 2,[.nils _],[]=>some (.tup [],[])
 | 2,[.sl xs],[]=>if xs.length≤1 then some (.tup [],[]) else none
 | _,_,_=>none
def zIB (orc:zAF) (yo:zCP) (al:All) (n:Nat) (f:FuncId) (fn:Func) (body:Code) (args hid:List PV):Option (PV×List PV) :=
 bif Nat.ble args.length fn.ntmps&&Nat.ble hid.length 1000&&args.all (fun p => !p.isTup) then
  match exec P H orc yo al fn.ntmps (H f) n body (zA5 args hid) none with
  | some (.norm,e,none) | some (.ret,e,none) =>
   match (zCH P (H f).frz 0 fn.results.toList).run orc e with
   | some e'=>bif Nat.beq fn.results.size 1&&(e'.get zAA).isTup then none else some (zUb e' fn.results.size,(List.range hid.length).map fun j=>e'.get (zAl+j))
   | none=>none
  | _=>none
 else none
def zIe (orc:zAF) (yo:zCP) (al:All) (n:Nat) (f:FuncId) (args hid:List PV):Option (PV×List PV) :=
 match P.funcs[f]? with
  | some fn=>if (H f).intr≠0 then zDQ P fn (H f).intr args hid else match fn.body with
   | some body=>zIB P H orc yo al n f fn body args hid
   | none=>none
  | none=>none
def zUK (orc:zAF) (yo:zCP) (al:All) (n:Nat) (f:FuncId) (first:List PV) (i:Nat) (caps:List PV) (k:Int):Option (List (List PV)) :=
 match P.funcs[f]? with
  | some fn=>match fn.body with
   | some body=>bif Nat.ble (first++PV.yld i::caps).length fn.ntmps&&fn.results.isEmpty&&(first++caps).all (fun p => !p.isTup)&&k != 0&&Nat.beq (H f).intr 0 then
     match exec P H orc yo al fn.ntmps (H f) n body (zA5 (first++PV.yld i::caps) []) (some ⟨[],k,i⟩) with
     | some (.norm,_,some l) | some (.ret,_,some l)=>some l.xs
     | _=>none
    else none
   | none=>none
  | none=>none
def zOU (al:All):Nat→zAF×zCP
 | 0=>(fun _ _ _=>none,fun _ _ _ _ _=>none)
 | n+1=>(fun f args hid=>zIe P H (zOU al n).1 (zOU al n).2 al (n+1) f args hid,fun f first i caps k=>zUK P H (zOU al n).1 (zOU al n).2 al (n+1) f first i caps k)
open Classical in
noncomputable def zB8:All:=fun x=>if h:∃ r,∀ i,x i=some r then some (Classical.choose h) else none
class Yo where
 yo:zCP
noncomputable def zCx [Yo]:Nat→zAF
 | 0=>fun _ _ _=>none
 | n+1=>fun f args hid=>zIe P H (zCx n) Yo.yo zB8 (n+1) f args hid
end Go.Eng
namespace Go.Eng
def zAt:List (Nat×List Nat)→Nat→List Nat
 | [],_=>[]
 | (k,l)::r,i=>bif Nat.beq k i then l else zAt r i
def zU2:List (Nat×FHint)→Nat→FHint
 | [],_=>{}
 | (k,h)::r,i=>bif Nat.beq k i then h else zU2 r i
end Go.Eng
namespace Go.Eng
open Go
def zAq.h3:FHint:={drop:=zAt [(0,[4]),(1,[10,11]),(2,[13]),(3,[14]),(4,[17,18,21]),(5,[0,23,24,27]),(6,[1,5,6,7,8,9,28,29,30,31,32,33,34,35,36,37,38,39,40,41,42,43])]}
def zAq.h4:FHint:={drop:=zAt [(0,[8]),(1,[0,24,25,26]),(2,[1,27,28,29]),(3,[2,31]),(5,[33]),(7,[37,38,39,40,41,42,43]),(8,[45]),(9,[46,47]),(10,[50,51,52,55,56]),(11,[16,57,58,59,60,61,62,63,64,65,66,67,68,69,70,71]),(13,[15,73]),(16,[78,79,80]),(17,[81,82,83,84,85,86,87,88]),(18,[18,19,89,90,91,92,93,94,95,96,97,98,99,100,101,102,103,104,105,106,107,108,109,110,111,112,113,114,115,116,117,118,119,120,121,122,123,124,125,126,127,128,129,130,131,132,133,134,135,136,137,138,139,140,141,142,143,144,145,146,147,148,149,150]),(20,[152]),(21,[12,153]),(22,[3,155,156,157,158,159]),(23,[160,161,162,163,164,165]),(24,[10,20,23,167,168,169,172,173]),(25,[14,16,17,21,22,174,175,176,177,178,179,180,181,182,183,184,185,186,187,188,189,190,191,192,193,194,195,196,197,198,199,200])],loopDrop:=zAt [(6,[36,37,38,39,40,41,42,43,45]),(15,[8,18,19,77,78,79,80,81,82,83,84,85,86,87,88,89,90,91,92,93,94,95,96,97,98,99,100,101,102,103,104,105,106,107,108,109,110,111,112,113,114,115,116,117,118,119,120,121,122,123,124,125,126,127,128,129,130,131,132,133,134,135,136,137,138,139,140,141,142,143,144,145,146,147,148,149,150,151,152])],take:=zAt [(13,[1])],frzs:=zAt [(1,[4])]}
def zAq.h5:FHint:={drop:=zAt [(0,[4]),(1,[0,16]),(4,[18]),(6,[22,23,24,25,26]),(7,[27,28,29,30,31,32]),(8,[34,35,36]),(9,[37,38,39]),(10,[8,41,42,43]),(11,[44]),(12,[46,47,48,51]),(13,[52]),(14,[10,54,55,56,57,58]),(15,[10,59,60,61,62,63,64,65,66]),(20,[72,73,74]),(21,[75,76,77,78,79,80,81]),(23,[83,84,85]),(24,[86,87,88,89,90,91,92]),(25,[14,93,94,95,96,97,98,99,100,101,102,103,104,105,106,107]),(29,[112]),(30,[15,113,114,115,116,117,118,119,120,121,122,123,124,125,126,127,128,129,130,131,132,133,134,135,136,137,138,139,140,141,142,143,144,145,146,147]),(32,[149]),(33,[150]),(34,[1,11,151,152,153,154,155,156,157])],loopDrop:=zAt [(5,[8,21,22,23,24,25,26,27,28,29,30,31,32,33,34,35,36,37,38,39,41,42,43,44]),(19,[4,12,13,14,15,71,72,73,74,75,76,77,78,79,80,81,82,83,84,85,86,87,88,89,90,91,92,93,94,95,96,97,98,99,100,101,102,103,104,105,106,107,108,109,110,111,112,113,114,115,116,117,118,119,120,121,122,123,124,125,126,127,128,129,130,131,132,133,134,135,136,137,138,139,140,141,142,143,144,145,146,147,148,149,150]),(28,[4,15,111,112,113,114,115,116,117,118,119,120,121,122,123,124,125,126,127,128,129,130,131,132,133,134,135,136,137,138,139,140,141,142,143,144,145,146,147,148,149])]}
def zAq.h6:FHint:={drop:=zAt [(0,[0,4]),(1,[22,23,24,25,26,27]),(2,[29]),(3,[30,31,32,33,34]),(4,[37,38,41]),(5,[43,44,47]),(6,[9,11,48,49,50,51,52,53,54,55,56]),(10,[62,63,64]),(11,[12,65,66,67,68,69]),(13,[71]),(14,[73,74,77]),(15,[79,80,83]),(16,[9,11,84,85,86,87,88,89,90,91,92]),(20,[98,99,100]),(21,[16,101,102,103,104,105]),(23,[107]),(24,[109,110,113,114]),(25,[116,117,120,121]),(26,[1,7,9,11,18,19,20,21,122,123,124,125,126,127,128,129,130,131,132,133,134,135,136,137,138,139,140,141,142,143,144,145,146,147])],loopDrop:=zAt [(9,[4,12,13,61,62,63,64,65,66,67,68,69,70,71]),(19,[4,16,17,97,98,99,100,101,102,103,104,105,106,107])]}
def zAq.h7:FHint:={drop:=zAt [(0,[4]),(1,[0,23,24,25]),(2,[1,26,27,28]),(3,[31,32,35]),(4,[37,38,41]),(5,[42,43]),(6,[8,10,45,46,47,48,49,50,51,52,53]),(10,[59,60,61]),(11,[62]),(13,[66]),(14,[67]),(15,[69,70,71,72]),(16,[15,73,74]),(17,[14,16,76,77,78,79,80,81,82,83,84,85,86,87,88,89,90,91,92,93,94,95,96,97,98]),(19,[100]),(20,[101,102]),(21,[103,104,105]),(22,[107,108]),(23,[109]),(24,[111,112,113,114,115,116,117,118,119,120,121]),(25,[18,122,123]),(26,[19,125,126,127,128,129,130,131,132,133,134,135,136,137,138,139,140,141,142,143,144,145,146,147,148,149,150,151,152,153,154,155,156,157,158,159,160,161]),(27,[20,162,163,164,165,166,167]),(29,[169]),(30,[170]),(32,[174]),(33,[21,175,176,177,178,179,180,181,182,183,184,185,186,187,188,189,190,191,192,193,194,195,196,197,198,199,200,201,202,203,204,205,206,207,208,209,210,211,212,213,214,215,216,217]),(35,[219]),(36,[220]),(38,[224]),(39,[22,225,226,227,228,229,230,231,232,233,234,235,236,237,238,239,240,241,242,243,244,245,246,247,248,249,250,251,252,253,254,255,256,257,258,259,260,261,262,263,264,265,266,267]),(41,[269]),(42,[270])],loopDrop:=zAt [(9,[4,12,13,14,15,16,17,18,19,20,58,59,60,61,62,63,64,65,66,67,68,69,70,71,72,73,74,75,76,77,78,79,80,81,82,83,84,85,86,87,88,89,90,91,92,93,94,95,96,97,98,99,100,101,102,103,104,105,106,107,108,109,110,111,112,113,114,115,116,117,118,119,120,121,122,123,124,125,126,127,128,129,130,131,132,133,134,135,136,137,138,139,140,141,142,143,144,145,146,147,148,149,150,151,152,153,154,155,156,157,158,159,160,161,162,163,164,165,166,167,168,169]),(12,[4,14,15,16,65,66,67,68,69,70,71,72,73,74,75,76,77,78,79,80,81,82,83,84,85,86,87,88,89,90,91,92,93,94,95,96,97,98,99,100]),(21,[4,18,19,20,103,104,105,106,107,108,109,110,111,112,113,114,115,116,117,118,119,120,121,122,123,124,125,126,127,128,129,130,131,132,133,134,135,136,137,138,139,140,141,142,143,144,145,146,147,148,149,150,151,152,153,154,155,156,157,158,159,160,161,162,163,164,165,166,167,168]),(31,[4,21,173,174,175,176,177,178,179,180,181,182,183,184,185,186,187,188,189,190,191,192,193,194,195,196,197,198,199,200,201,202,203,204,205,206,207,208,209,210,211,212,213,214,215,216,217,218,219]),(37,[4,22,223,224,225,226,227,228,229,230,231,232,233,234,235,236,237,238,239,240,241,242,243,244,245,246,247,248,249,250,251,252,253,254,255,256,257,258,259,260,261,262,263,264,265,266,267,268,269])],frzs:=zAt [(1,[4])]}
def zAq.h8:FHint:={drop:=zAt [(0,[0,2]),(1,[11,12,13,14,15,16,17,18,19,20,21,22,23]),(2,[25]),(3,[26,27,28,29]),(4,[31,34,35]),(5,[37,40,41]),(6,[5,6,7,8,9,10,42,43,44,45,46,47,48,49,50,51,52,53,54]),(8,[57,60,61]),(9,[63,66,67]),(10,[5,6,7,8,9,10,68,69,70,71,72,73,74,75,76,77,78,79,80,81,82,83,84,85,86,87,88])],frzs:=zAt [(3,[7])]}
def zAq.h9:FHint:={drop:=zAt [(0,[4]),(1,[26,27,28,29,30,31,32]),(2,[34]),(3,[35,37]),(4,[39,40,41,42,43,44]),(5,[45,46,47,48,49,50,51]),(6,[7,8,9,10,52,53,54,55,56,57,58]),(8,[61,64]),(9,[66,69]),(10,[70,71]),(11,[8,13,72,73,74,75,76,77,78,79,80,81,82,83,84,85,86,87,88,89,90]),(13,[10,92]),(14,[0,5,94,95,96,97,98,99]),(18,[104,105]),(19,[16,106]),(20,[108,109]),(21,[110]),(22,[111,112]),(23,[19,113,114,115,116,117,118,119]),(24,[11,17,18,120,121,122,123,124,125,126,127,128,129,130,131,132,133,134]),(26,[136,137]),(29,[143]),(33,[150,151,152]),(34,[24,153,154,155,156,157,158,159,160,161,162,163,164,165,166,167,168,169,170,171,172,173,174,175,176,177,178,179,180,181,182,183,184,185]),(36,[187,188,189]),(37,[25,190,191,192,193,194,195]),(38,[196,197]),(39,[198]),(40,[21,22,23,199,200,201,202,203,204,205,206,207,208,209,210,211,212,213,214,215,216,217,218,219,220,221]),(42,[223]),(43,[0,1,5,6,14,224,225,226,227,228,229,230,231,232,233,234,235,236,237,238])],loopDrop:=zAt [(17,[16,103,104,105,106,107,108,109,110]),(28,[4,21,22,23,24,25,142,143,144,145,146,147,148,149,150,151,152,153,154,155,156,157,158,159,160,161,162,163,164,165,166,167,168,169,170,171,172,173,174,175,176,177,178,179,180,181,182,183,184,185,186,187,188,189,190,191,192,193,194,195,196,197,198,199,200,201,202,203,204,205,206,207,208,209,210,211,212,213,214,215,216,217,218,219,220,221,222,223]),(32,[4,24,25,149,150,151,152,153,154,155,156,157,158,159,160,161,162,163,164,165,166,167,168,169,170,171,172,173,174,175,176,177,178,179,180,181,182,183,184,185,186,187,188,189,190,191,192,193,194,195,196,197,198])]}
def zAq.h10:FHint:={drop:=zAt [(0,[4]),(1,[0,24,25,26]),(2,[1,27]),(3,[30,33,34]),(4,[7,35,36]),(5,[9,10,38,39,40,41,42,43,44,45,46,47,48,49,50,51]),(9,[55,56]),(10,[58,59,60,61,62,63]),(11,[65,66,69]),(12,[11,70,71]),(13,[12,13,14,15,16,73,74,75,76,77,78,79,80,81,82,83,84,85,86,87,88,89,90,91,92,93,94,95,96,97]),(15,[99]),(16,[100,101]),(18,[102,103]),(20,[107]),(21,[108,109,110,111,112]),(22,[113]),(24,[117]),(25,[20,118,119,120,121,122,123,124,125,126,127,128,129,130,131]),(26,[132]),(27,[19,133,134,135,136,137]),(28,[138]),(29,[6,22,140,141,142,143,146,147]),(30,[21,148,149]),(31,[9,18,23,151,152,153,154,155,156,157,158,159,160,161,162,163,164,165,166,167,168])],loopDrop:=zAt [(8,[4,11,12,13,14,15,16,54,55,56,57,58,59,60,61,62,63,64,65,66,67,68,69,70,71,72,73,74,75,76,77,78,79,80,81,82,83,84,85,86,87,88,89,90,91,92,93,94,95,96,97,98,99]),(19,[19,20,106,107,108,109,110,111,112,113,114,115,116,117,118,119,120,121,122,123,124,125,126,127,128,129,130,131,132,133,134,135,136,137,138]),(23,[20,116,117,118,119,120,121,122,123,124,125,126,127,128,129,130,131,132])],take:=zAt [(25,[10])],frzs:=zAt [(1,[4])],ices:=zAt [(2,[17])]}
def zAq.h11:FHint:={drop:=zAt [(0,[0,8]),(1,[19,20,21,22,23,24,25,26,27,28,29]),(2,[31]),(3,[32,33,34,35,36,38]),(4,[40,41,42,43]),(6,[45,46,47,48,49,50]),(7,[1,51,52,53,54,55,56]),(8,[13,14,15,16,57,58,59,60,61,62,63]),(10,[66,67,70]),(11,[72,73,76]),(12,[14,16,17,18,77,78,79,80,81,82,83,84]),(14,[86,87,88,89,90,91]),(15,[92,93,94,95,96,97]),(16,[13,14,15,16,98,99,100,101,102,103,104]),(18,[107,108,109,112,113]),(19,[115,116,117,120,121]),(20,[2,3,11,12,13,14,15,16,17,18,122,123,124,125,126,127,128,129,130,131,132,133,134,135,136,137,138,139,140,141,142,143,144,145,146,147,148,149,150,151,152])]}
def zAq.h12:FHint:={drop:=zAt [(0,[4]),(1,[0,29]),(4,[31]),(6,[35,36,37]),(7,[38]),(8,[40,41]),(9,[42,43,44]),(10,[8,46,47,48]),(11,[49]),(12,[7,50,51,52,53]),(13,[56,59]),(14,[61,64]),(15,[65,66,67,68,69,70]),(19,[75,76]),(20,[17,77]),(21,[79,80]),(22,[81]),(23,[10,12,13,14,15,82,83,84,85,86,87,88,89,90,91,92,93,94,95,96,97,98,99,100,101,102,103]),(25,[105]),(28,[111,112]),(29,[113,114,115,116,117,118,119,120,121,122,123,124,125,126,127,128,129,130,131,132,133,134,135,136,137,138,139,140,141,142,143,144,145,146,147,148,149,150]),(31,[152,153,154,155,156,157,158,159,160]),(32,[161,162,163,164,165,166,167,168,169]),(33,[170]),(34,[18,171]),(42,[183,184]),(43,[185,186,187,188,189,190,191]),(45,[25,193,194,195,196,197,198]),(46,[199]),(47,[22,23,200,201,202,203,204,205]),(49,[207]),(50,[208,209]),(51,[1,211,212,213,214,215]),(52,[6,9,26,216,217,218,219,220,221,222,223,224,225,226]),(53,[27,28,227,228,229,230]),(55,[232])],loopDrop:=zAt [(5,[8,34,35,36,37,38,39,40,41,42,43,44,46,47,48,49]),(18,[17,74,75,76,77,78,79,80,81]),(27,[4,20,110,111,112,113,114,115,116,117,118,119,120,121,122,123,124,125,126,127,128,129,130,131,132,133,134,135,136,137,138,139,140,141,142,143,144,145,146,147,148,149,150,151,152,153,154,155,156,157,158,159,160,161,162,163,164,165,166,167,168,169,170]),(37,[4,22,23,25,176,177,178,179,180,181,182,183,184,185,186,187,188,189,190,191,192,193,194,195,196,197,198,199,200,201,202,203,204,205,206,207]),(41,[4,25,182,183,184,185,186,187,188,189,190,191,192,193,194,195,196,197,198,199])]}
def zAq.h13:FHint:={drop:=zAt [(0,[0,4]),(1,[14,15,16,17,18,19]),(2,[21]),(3,[22,23,24,25,26]),(4,[28,29,30,31,32,33]),(5,[34,35,36,37,38,39]),(6,[8,9,10,11,40,41,42,43,44,45,46]),(8,[49,52,53]),(9,[55,58,59]),(10,[1,7,8,9,10,11,12,13,60,61,62,63,64,65,66,67,68,69,70,71,72,73,74,75,76,77,78,79,80,81,82,83,84,85])],frzs:=zAt [(3,[9])]}
def zAq.h14:FHint:={drop:=zAt [(0,[4]),(1,[0,22,23,24]),(2,[1,25]),(3,[28,31,32]),(4,[33,34,35,36,37,38]),(5,[9,10,11,39,40,41,42,43,44,45,46,47,48,49,50,51,52,53]),(9,[57,58,59,60]),(10,[63,64,65]),(11,[68,69,70,71,72,73]),(12,[14,74,75,76,77,78,79,80,81,82,83,84,85,86,87,88,89,90,91]),(14,[93,94]),(15,[15,96,97]),(16,[99,100,101,102,103,104,105]),(19,[110,111]),(20,[19]),(22,[121,122]),(23,[21,123,124,125,126,127,128,129,130,131]),(24,[132]),(25,[133]),(26,[17,134]),(28,[136]),(29,[137])],loopDrop:=zAt [(8,[4,12,13,14,15,16,17,19,21,56,57,58,59,60,61,62,63,64,65,66,67,68,69,70,71,72,73,74,75,76,77,78,79,80,81,82,83,84,85,86,87,88,89,90,91,92,93,94,95,96,97,98,99,100,101,102,103,104,105,106,107,108,109,110,111,112,113,114,115,116,117,118,119,120,121,122,123,124,125,126,127,128,129,130,131,132,133,134,135,136]),(18,[19,21,109,110,111,112,113,114,115,116,117,118,119,120,121,122,123,124,125,126,127,128,129,130,131,132,133]),(21,[21,120,121,122,123,124,125,126,127,128,129,130,131,132])],frzs:=zAt [(1,[4])]}
def zAq.h15:FHint:={drop:=zAt [(0,[4]),(1,[0,26,27,28]),(2,[1,29]),(3,[32,35,36]),(4,[38,41,42]),(5,[9,10,11,12,43,44,45,46,47,48,49,50,51,52,53,54,55,56,57,58,59,60,61,62,63,64,65]),(7,[67,68]),(8,[13,70,71,72,73,74,75,76]),(12,[80]),(14,[14,82]),(15,[84,85]),(16,[87,88,89,90]),(17,[92,93,96,97]),(18,[98,99]),(19,[15,16,18,19,101,102,103,104,105,106,107,108,109,110,111,112,113,114,115,116,117,118,119,120,121,122,123,124,125,126,127,128,129,130]),(23,[136,137,138]),(26,[148,149]),(27,[24,150,151,152,153,154,155,156,157,158,159,160,161,162,163,164,165,166]),(29,[168]),(30,[169]),(31,[17,171,172,175]),(32,[19,25,176,177,178,179,180,181]),(34,[183]),(35,[184])],loopDrop:=zAt [(11,[4,14,15,16,17,18,19,20,21,22,24,25,79,80,81,82,83,84,85,86,87,88,89,90,91,92,93,94,95,96,97,98,99,100,101,102,103,104,105,106,107,108,109,110,111,112,113,114,115,116,117,118,119,120,121,122,123,124,125,126,127,128,129,130,131,132,133,134,135,136,137,138,139,140,141,142,143,144,145,146,147,148,149,150,151,152,153,154,155,156,157,158,159,160,161,162,163,164,165,166,167,168,169,170,171,172,173,174,175,176,177,178,179,180,181,182,183]),(22,[4,21,22,24,135,136,137,138,139,140,141,142,143,144,145,146,147,148,149,150,151,152,153,154,155,156,157,158,159,160,161,162,163,164,165,166,167,168,169]),(25,[4,24,147,148,149,150,151,152,153,154,155,156,157,158,159,160,161,162,163,164,165,166,167,168])],frzs:=zAt [(1,[4])]}
def zAq.h16:FHint:={drop:=zAt [(0,[0]),(1,[16,17,20,21]),(2,[23,26,27]),(3,[29,30,33]),(4,[35,36,37,40,41]),(5,[1,2,3,4,5,6,7,8,9,10,11,42,43,44,45,46,47,48,49,50,51,52,53,54,55,56,57,58,59,60,61,62,63,64,65,66,67,68,69,70,71,72,73,74,75,76,77,78,79,80,81,82,83,84,85,86,87,88,89,90,91]),(7,[93,94,95,96,97,98]),(8,[100,103]),(9,[105,108]),(10,[3,6,8,12,13,14,109,110,111,112,113,114,115,116,117,118,119,120,121,122,123,124,125,126,127,128,129,130,131,132,133,134])]}
def zAq.h17:FHint:={drop:=zAt [(0,[2]),(1,[4,5]),(2,[0,7,8,9])],take:=zAt [(3,[1])]}
def zAq.h18:FHint:={drop:=zAt [(0,[0,1,4,5]),(2,[14,15,16,17]),(4,[19,20,21,22,23,24,25,26]),(6,[27,28]),(7,[29]),(12,[35,36,37]),(13,[9,10,38,39,40,41,42,43,44,46,47,48]),(14,[50]),(15,[51,52,53]),(16,[55,56,57]),(18,[63,64]),(19,[12,65,66,67,68,69,70]),(20,[71])],loopDrop:=zAt [(11,[9,10,34,35,36,37,38,39,40,41,42,43,44,46,47,48,50]),(17,[12,62,63,64,65,66,67,68,69,70,71])],take:=zAt [(13,[10]),(21,[1])]}
def zAq.h19:FHint:={drop:=zAt [(0,[4,5]),(1,[14,15]),(3,[17]),(7,[19,20,21]),(8,[23,24]),(9,[25,26,27,28]),(11,[30,31,32,33,34,35]),(12,[36]),(15,[38]),(17,[39,40,41]),(18,[43,44]),(19,[45,46,47,48,49,50,51,52,53,54]),(20,[56,57,58,59,60,61,62,63,64,65,66,67,68,69,70]),(21,[72,73,74,75,76,77]),(22,[78]),(25,[80,81,82]),(26,[84,85]),(27,[86,87,88,89,90,91,92,93]),(28,[95]),(29,[96,97,98,99,100,101,102,103]),(30,[12,104,105,106]),(31,[107,108])],loopDrop:=zAt [(7,[4,5,19,20,21,22,23,24,25,26,27,28,29,30,31,32,33,34,35]),(17,[39,40,41,42,43,44,45,46,47,48,49,50,51,52,53,54,56,57,58,59,60,61,62,63,64,65,66,67,68,69,70,72,73,74,75,76,77]),(22,[12,13,78,79,80,81,82,83,84,85,86,87,88,89,90,91,92,93,94,95,96,97,98,99,100,101,102,103,104,105,106,107,108]),(25,[80,81,82,83,84,85,86,87,88,89,90,91,92,93,94,95])],take:=zAt [(32,[1])]}
def zAq.h20:FHint:={drop:=zAt [(0,[4]),(1,[0,1,5,6,7])]}
def zAq.h21:FHint:={drop:=zAt [(1,[9,10,11,12,13,14,15,16,17]),(2,[1,18,19]),(4,[23,24,25,26,27]),(5,[28,29,30,31,32]),(6,[33]),(8,[37]),(9,[38,39,40,41,42,43,44]),(10,[8,46,47,48,49,50,51]),(11,[52]),(12,[53,54,55,56,57,58]),(13,[59]),(14,[60])],loopDrop:=zAt [(3,[6,7,8,22,23,24,25,26,27,28,29,30,31,32,33,34,35,36,37,38,39,40,41,42,43,44,45,46,47,48,49,50,51,52,53,54,55,56,57,58,59]),(7,[8,36,37,38,39,40,41,42,43,44,45,46,47,48,49,50,51,52])],take:=zAt [(10,[3]),(12,[3]),(14,[1])],mode:=[1,0]}
def zAq.h22:FHint:={drop:=zAt [(0,[2]),(1,[0,3,4])]}
def zAq.h23:FHint:={drop:=zAt [(0,[1,4]),(4,[13,14]),(5,[15,16,17,18,19,20,21,22,23,24,25,26]),(6,[28])],loopDrop:=zAt [(3,[7,12,13,14,15,16,17,18,19,20,21,22,23,24,25,26,28])],take:=zAt [(7,[1])],mode:=[1,0]}
def zAq.h24:FHint:={drop:=zAt [(0,[4]),(1,[0,1,5,6,7,8,9,10])],mode:=[1,0]}
def zAq.h25:FHint:={drop:=zAt [(0,[0,4]),(1,[8,9]),(4,[15,16,17]),(5,[18,19,20,21,22,23,24,25,26,27,28,29,30,31,32]),(7,[6,7,34,35,36,37,38,39,40,41,42]),(8,[43]),(9,[1,44,45,46,47,48])],loopDrop:=zAt [(3,[4,6,7,14,15,16,17,18,19,20,21,22,23,24,25,26,27,28,29,30,31,32,33,34,35,36,37,38,39,40,41,42,43])],take:=zAt [(11,[1])],nils:=true}
def zAq.h26:FHint:={drop:=zAt [(0,[0,6,7,8]),(1,[17,18,21]),(2,[23,24]),(3,[10,25]),(4,[27,28,29,30,31]),(6,[33,34,35]),(9,[1,9,36,37]),(11,[41,42]),(12,[43,44,45]),(13,[13,47,48,49,50,51,52,53,54,55]),(14,[14,15,56,57,58,59,60,62,63,64]),(15,[66]),(16,[12,68,69])],loopDrop:=zAt [(10,[13,14,15,40,41,42,43,44,45,46,47,48,49,50,51,52,53,54,55,56,57,58,59,60,62,63,64,66])],take:=zAt [(3,[3]),(14,[8]),(16,[3])]}
def zAq.h27:FHint:={drop:=zAt [(0,[6]),(1,[0,1,2,7,8,9,10,11,12,13])],mode:=[1,0,0]}
def zAq.h28:FHint:={drop:=zAt [(0,[4]),(1,[0,1,5,6,7,8,9])],mode:=[1,0]}
def zAq.h29:FHint:={drop:=zAt [(0,[0,2]),(1,[5,6,7]),(5,[14,15]),(6,[16,17,18]),(8,[20])],loopDrop:=zAt [(4,[2,4,13,14,15,16,17,18,19,20])]}
def zAq.h30:FHint:={drop:=zAt [(0,[0]),(1,[5,6,7,8]),(4,[14,15,16]),(5,[3,17,18,19,20,21,22,23,24]),(6,[25]),(7,[26])],loopDrop:=zAt [(3,[3,4,13,14,15,16,17,18,19,20,21,22,23,24,25])],take:=zAt [(7,[1])],frzs:=zAt [(5,[8])]}
def zAq.h31:FHint:={drop:=zAt [(0,[0]),(1,[6,7,8,9,10,11,12,13,14]),(4,[20,21]),(5,[22,23,24,25,26,27,28,29,30,31,32,33,34]),(6,[35]),(7,[36])],loopDrop:=zAt [(3,[5,19,20,21,22,23,24,25,26,27,28,29,30,31,32,33,34,35])],take:=zAt [(7,[1])]}
def zAq.h32:FHint:={drop:=zAt [(0,[0,4,5]),(1,[9,10,13]),(2,[14]),(3,[7,16]),(4,[1,6,17,18,19])],take:=zAt [(3,[2])]}
def zAq.h33:FHint:={drop:=zAt [(0,[0,4,5]),(1,[10,11,12]),(2,[13]),(3,[6,15]),(6,[16,17,18]),(7,[20,21]),(9,[22,23,24]),(10,[26,27]),(11,[28,29,30,31,32,33,34,35,36,37,38,39,40,41,42,43,44,45,46,47,48,49,50,51,52,53,54,55]),(12,[57,58,59,60,61])],loopDrop:=zAt [(6,[9,16,17,18,19,20,21,22,23,24,25,26,27,28,29,30,31,32,33,34,35,36,37,38,39,40,41,42,43,44,45,46,47,48,49,50,51,52,53,54,55,56,57,58,59,60,61]),(9,[22,23,24,25,26,27,28,29,30,31,32,33,34,35,36,37,38,39,40,41,42,43,44,45,46,47,48,49,50,51,52,53,54,55,56,57,58,59,60,61])],take:=zAt [(3,[2]),(13,[1])]}
def zAq.h34:FHint:={drop:=zAt [(0,[0,4,5]),(1,[16,17,20]),(2,[21]),(3,[7,23]),(4,[24,25,26]),(8,[31,32,33]),(9,[34,35]),(10,[36,37,38]),(11,[40,41]),(12,[42,43,44,45,46,47,48,49,50,51,52,53,54,55,56,57,58,59,60]),(13,[13,14,61,62,63,64,65,66,67,68,69,70,71,72,73,74,75,76,77,78,79,80,81,82,83,84,85,86,87,88,89,90,91,92,93,94,95]),(14,[97,98,99,100,101]),(15,[103])],loopDrop:=zAt [(7,[10,11,12,13,14,30,31,32,33,34,35,36,37,38,39,40,41,42,43,44,45,46,47,48,49,50,51,52,53,54,55,56,57,58,59,60,61,62,63,64,65,66,67,68,69,70,71,72,73,74,75,76,77,78,79,80,81,82,83,84,85,86,87,88,89,90,91,92,93,94,95,96,97,98,99,100,101,103]),(10,[13,14,36,37,38,39,40,41,42,43,44,45,46,47,48,49,50,51,52,53,54,55,56,57,58,59,60,61,62,63,64,65,66,67,68,69,70,71,72,73,74,75,76,77,78,79,80,81,82,83,84,85,86,87,88,89,90,91,92,93,94,95,96,97,98,99,100,101])],take:=zAt [(3,[2]),(16,[1])]}
def zAq.h35:FHint:={drop:=zAt [(0,[0,4,5]),(1,[12,13,14]),(2,[15]),(3,[6,17]),(6,[18,19,20]),(7,[22,23]),(8,[24,25]),(9,[26,27,28]),(10,[30,31]),(11,[32,33,34,35,36,37,38,39,40,41,42,43,44,45,46,47,48,49,50,51,52,53,54,55,56,57,58,59]),(12,[61,62,63,64,65,66,67,68,69,70,71,72]),(13,[74,75,76,77,78,79,80,81,82,83,84,85,86,87,88]),(14,[10,11,89,90,91,92,93,94,95,96,97,98,99,100,101,102,103,104,105,106,107]),(15,[109,110,111,112,113])],loopDrop:=zAt [(6,[9,10,11,18,19,20,21,22,23,24,25,26,27,28,29,30,31,32,33,34,35,36,37,38,39,40,41,42,43,44,45,46,47,48,49,50,51,52,53,54,55,56,57,58,59,60,61,62,63,64,65,66,67,68,69,70,71,72,73,74,75,76,77,78,79,80,81,82,83,84,85,86,87,88,89,90,91,92,93,94,95,96,97,98,99,100,101,102,103,104,105,106,107,108,109,110,111,112,113]),(9,[10,11,26,27,28,29,30,31,32,33,34,35,36,37,38,39,40,41,42,43,44,45,46,47,48,49,50,51,52,53,54,55,56,57,58,59,60,61,62,63,64,65,66,67,68,69,70,71,72,73,74,75,76,77,78,79,80,81,82,83,84,85,86,87,88,89,90,91,92,93,94,95,96,97,98,99,100,101,102,103,104,105,106,107,108,109,110,111,112,113])],take:=zAt [(3,[2]),(16,[1])]}
def zAq.h36:FHint:={drop:=zAt [(0,[0,4,5,6]),(1,[14,15,18]),(2,[19]),(3,[8,21]),(4,[22,23,24]),(5,[1,25,26,27]),(7,[28,29]),(9,[30,31]),(10,[33]),(11,[34,35,36,37,38,39]),(12,[40]),(13,[10,43])],loopDrop:=zAt [(0,[4,5,6,11,12,28,29,30,31,32,33,34,35,36,37,38,39,40,41,42,43])],take:=zAt [(3,[3]),(13,[2,3])]}
def zAq.h37:FHint:={drop:=zAt [(0,[0,4,5,6]),(1,[11,12,15]),(2,[16]),(3,[8,18]),(5,[19,20]),(6,[22,23]),(7,[7,25,26,27,28,29,30,31,32,33]),(8,[35,36]),(9,[38,39,42]),(10,[9,44])],loopDrop:=zAt [(6,[22,23,24,25,26,27,28,29,30,31,32,33,35,36,37,38,39,40,42,2000592,2000593])],take:=zAt [(3,[3]),(10,[2,3])]}
def zAq.h38:FHint:={drop:=zAt [(0,[0,1,4]),(1,[7,8,9,10,11,12,13,14,15,16,17,18,19,20,21,22,23,24,25,26,27,28,29,30,31,32,33,34,35,36,37,38,39,40]),(5,[47,48,49]),(6,[5,50,51,52,53,54,55,56,57,58,59,60,61,62,63,64,65,66,67,68,69,70,71,72,73,74,75,76,77,78,79,80]),(8,[82])],loopDrop:=zAt [(4,[4,5,6,46,47,48,49,50,51,52,53,54,55,56,57,58,59,60,61,62,63,64,65,66,67,68,69,70,71,72,73,74,75,76,77,78,79,80,81,82])]}
def zAq.h39:FHint:={drop:=zAt [(0,[1,4]),(1,[0,5,6,7,8])]}
def zAq.h40:FHint:={drop:=zAt [(0,[1,4]),(1,[0,5,6,7,8])]}
def zAq.h41:FHint:={drop:=zAt [(0,[0,2,3,4]),(1,[10,13]),(2,[14]),(3,[6,16]),(4,[5,18,19,20,21,24]),(5,[8,26])],take:=zAt [(3,[3]),(5,[2,3])]}
def zAq.h42:FHint:={drop:=zAt [(0,[0,4,5,6]),(1,[15,16]),(2,[17]),(3,[7,19]),(4,[20]),(8,[22,23,24]),(9,[26,27]),(10,[13,29,30,31,32,33,36]),(11,[37,38]),(13,[12,40,41,42,43]),(14,[44,45,46,47,48,49]),(15,[14,55]),(16,[10,57])],loopDrop:=zAt [(8,[12,13,14,22,23,24,25,26,27,28,29,30,31,32,33,34,35,36,37,38,39,40,41,42,43,44,45,46,47,48,49,50,51,52,53,54,55])],take:=zAt [(3,[3]),(15,[6]),(16,[2,3])],frz:=true}
def zAq.h43:FHint:={drop:=zAt [(0,[0,2,3,4]),(1,[10,13]),(2,[14]),(3,[6,16]),(4,[5,18,19,20,21,24]),(5,[8,26])],take:=zAt [(3,[3]),(5,[2,3])]}
def zAq.h44:FHint:={drop:=zAt [(0,[2]),(1,[4,5]),(2,[0,7,8,9])],take:=zAt [(3,[1])]}
def zAq.h45:FHint:={drop:=zAt [(0,[4,5]),(1,[10,11]),(2,[12]),(3,[6,14]),(4,[0,15]),(7,[21,22]),(8,[23,24,25,26,27,28,29,30,31,32,33,34,35,36,37,38,39,40,41,42,43,44,45,46,47,48,49,50]),(10,[52,53,54,55,56,57,58,59,60]),(11,[61,62,63,64,65,66,67,68,69]),(12,[70]),(13,[7,71,72])],loopDrop:=zAt [(6,[4,5,9,20,21,22,23,24,25,26,27,28,29,30,31,32,33,34,35,36,37,38,39,40,41,42,43,44,45,46,47,48,49,50,51,52,53,54,55,56,57,58,59,60,61,62,63,64,65,66,67,68,69,70])],take:=zAt [(3,[2])]}
def zAq.h46:FHint:={drop:=zAt [(0,[4,5]),(1,[11,12]),(2,[13]),(3,[6,15]),(5,[16,17,18]),(6,[20,21]),(7,[22,23,24,25,26,27,28,29,30,31,32,33,34,35,36,37,38,39,40,41,42,43,44,45,46,47,48,49,50,51,52,53,54,55,56,57,58,59,60,61]),(10,[63,64,65]),(11,[67,68]),(12,[69,70,71,72]),(14,[73,74,75]),(15,[77,78]),(16,[79,80,81,82,83,84]),(17,[86,87,88,89,90,91,92]),(18,[93,94,95,96,97,98]),(19,[100,101,102,103,104,105,106]),(20,[9,107])],loopDrop:=zAt [(5,[4,5,16,17,18,19,20,21,22,23,24,25,26,27,28,29,30,31,32,33,34,35,36,37,38,39,40,41,42,43,44,45,46,47,48,49,50,51,52,53,54,55,56,57,58,59,60,61,62]),(10,[4,5,9,10,63,64,65,66,67,68,69,70,71,72,73,74,75,76,77,78,79,80,81,82,83,84,85,86,87,88,89,90,91,92,93,94,95,96,97,98,99,100,101,102,103,104,105,106,107,108]),(14,[73,74,75,76,77,78,79,80,81,82,83,84,85,86,87,88,89,90,91,92,93,94,95,96,97,98,99,100,101,102,103,104,105,106])],take:=zAt [(3,[2])]}
def zAq.h47:FHint:={drop:=zAt [(0,[2]),(4,[10,11]),(5,[12,13,14]),(6,[16])],loopDrop:=zAt [(3,[5,9,10,11,12,13,14,16])],take:=zAt [(5,[2]),(7,[1])]}
def zAq.h48:FHint:={drop:=zAt [(0,[2,3]),(1,[11,12]),(2,[13]),(3,[4,15]),(5,[16]),(9,[24,25]),(11,[31,32,33]),(12,[34,35,36,37,38,39]),(13,[41,42]),(14,[9,10,43,44,45,46,47,48,49,50,51,52]),(15,[55,56]),(16,[9,10,57,58,59,60,61,62,63,64,65,66,67]),(17,[69]),(18,[70])],loopDrop:=zAt [(6,[7,8,9,10,20,21,22,23,24,25,26,27,28,29,30,31,32,33,34,35,36,37,38,39,40,41,42,43,44,45,46,47,48,49,50,51,52,54,55,56,57,58,59,60,61,62,63,64,65,66,67,69,70]),(10,[9,10,30,31,32,33,34,35,36,37,38,39,40,41,42,43,44,45,46,47,48,49,50,51,52,54,55,56,57,58,59,60,61,62,63,64,65,66,67,69])],take:=zAt [(3,[2]),(19,[1])]}
def zAq.h49:FHint:={drop:=zAt [(0,[2,3]),(1,[5,6]),(2,[7]),(3,[4,9]),(4,[0,10])],take:=zAt [(3,[2])]}
def zAq.h50:FHint:={drop:=zAt [(0,[2]),(1,[5,6]),(5,[8,9,10]),(6,[12,13]),(7,[14,15,16,17]),(9,[19,20,21,22,23,24]),(10,[3,25])],loopDrop:=zAt [(5,[2,8,9,10,11,12,13,14,15,16,17,18,19,20,21,22,23,24])]}
def zAq.h51:FHint:={drop:=zAt [(0,[6]),(1,[11,12,13,14,15,16,17,18,19,20]),(2,[22,23]),(3,[24,25,26]),(5,[28,29,30]),(6,[32,33]),(7,[34,35,36,37]),(9,[2,39,40]),(12,[41,42,43]),(13,[45,46]),(14,[47,48]),(15,[50,51,52,53,54,55,56,57,58,59,60,61]),(16,[10,62,63,64,65,66,67,68]),(17,[0,1,2,8,69,70,71,72,73,74,75,76,77,78,79,80,81,82,83])],loopDrop:=zAt [(1,[11,12,13,14,15,16,17,18,19,20,21,22,23]),(5,[6,28,29,30,31,32,33,34,35,36,37,38]),(12,[10,41,42,43,44,45,46,47,48,49,50,51,52,53,54,55,56,57,58,59,60,61,62,63,64,65,66,67,68])]}
def zAq.h52:FHint:={drop:=zAt [(0,[4]),(1,[0,1,5,6,7])]}
def zAq.h53:FHint:={drop:=zAt [(0,[2]),(1,[5,6]),(2,[8]),(3,[9,10,11]),(5,[12,13,14]),(6,[16,17]),(7,[18,19,20,21,22,23]),(8,[3,24])],loopDrop:=zAt [(5,[12,13,14,15,16,17,18,19,20,21,22,23])],take:=zAt [(8,[1])]}
def zAq.h54:FHint:={drop:=zAt [(0,[2]),(1,[5,6]),(2,[8]),(3,[9,10,11]),(5,[12,13,14]),(6,[16,17]),(7,[18,19,20,21,22,23]),(8,[3,24])],loopDrop:=zAt [(5,[12,13,14,15,16,17,18,19,20,21,22,23])],take:=zAt [(8,[1])]}
def zAq.h55:FHint:={drop:=zAt [(0,[0,4,5]),(1,[9,10,13]),(2,[14]),(3,[7,16]),(4,[1,6,17,18,19,20,21])],take:=zAt [(3,[2])]}
def zAq.h56:FHint:={drop:=zAt [(0,[0,4,5]),(1,[10,11,14]),(2,[15]),(3,[7,17]),(4,[1,6,18,19,20]),(5,[21,22,23])],take:=zAt [(3,[2])]}
def zAq.h57:FHint:={drop:=zAt [(0,[0,4]),(1,[1,6,7,8,9,10]),(2,[11,12,13,14,15,16,17,18,19,20,21])]}
def zAq.h58:FHint:={drop:=zAt [(0,[0,2]),(1,[7,8,9,10,11,12,13,14,15,16]),(3,[18,19,20,21,22,23,24,25,26,27,28,29,30,31,32,33]),(5,[35,36,37,38]),(9,[44,45]),(10,[47,48,49,50]),(12,[52,53,54,55,56,57]),(14,[58,59,60]),(16,[64]),(17,[5,65,66,67,68,69,70,71,72,73,74,75]),(19,[77]),(20,[78])],loopDrop:=zAt [(8,[2,4,5,43,44,45,46,47,48,49,50,51,52,53,54,55,56,57,58,59,60,61,62,63,64,65,66,67,68,69,70,71,72,73,74,75,76,77,78]),(15,[2,5,63,64,65,66,67,68,69,70,71,72,73,74,75,76,77])]}
def zAq.h59:FHint:={drop:=zAt [(0,[0,2]),(1,[8,9,10,11,12,13,14,15]),(3,[17,18,19,20,21,22,23,24,25,26,27,28]),(6,[30,31,32,33]),(7,[35,36]),(8,[37,38,39,40,41,42,43,44,45,46,47,48,49,50,51]),(11,[53,54,55,56]),(12,[58,59]),(14,[66,67]),(17,[69,70,71]),(18,[73,74]),(19,[75,76,77,78,79,80,81]),(22,[83,84,85]),(23,[87,88]),(24,[89,90,91,92,93,94,95,96,97])],loopDrop:=zAt [(6,[2,30,31,32,33,34,35,36,37,38,39,40,41,42,43,44,45,46,47,48,49,50,51,52]),(11,[2,5,6,7,53,54,55,56,57,58,59,60,61,62,63,64,65,66,67,68,69,70,71,72,73,74,75,76,77,78,79,80,81,82,83,84,85,86,87,88,89,90,91,92,93,94,95,96,97,98]),(17,[2,69,70,71,72,73,74,75,76,77,78,79,80,81,82]),(22,[2,83,84,85,86,87,88,89,90,91,92,93,94,95,96,97,98])]}
def zAq.h60:FHint:={drop:=zAt [(0,[0,4,5]),(1,[9,12]),(2,[14,15]),(3,[7,16]),(4,[18,19,20,21]),(6,[1,6,22,23,24,25,26,27,28])],take:=zAt [(3,[2])]}
def zAq.h61:FHint:={drop:=zAt [(0,[0,4,5]),(1,[7,8]),(2,[9]),(3,[6,11]),(4,[12,13,14,15,16]),(6,[1,18,19,20])],take:=zAt [(3,[2])]}
def zAq.h62:FHint:={drop:=zAt [(0,[0,4,5]),(1,[9,10,11]),(2,[12]),(3,[6,14]),(6,[15,16,17]),(7,[19,20]),(8,[21,22,23,24,25,26])],loopDrop:=zAt [(6,[15,16,17,18,19,20,21,22,23,24,25,26])],take:=zAt [(3,[2]),(9,[1])]}
def zAq.h63:FHint:={drop:=zAt [(0,[0,4,5]),(1,[1,9,10,13]),(2,[14]),(3,[7,16]),(4,[6,17,18,19,20,21])],take:=zAt [(3,[2])]}
def zAq.h64:FHint:={drop:=zAt [(0,[0,6,7,8]),(1,[1,17,18,21]),(2,[22]),(3,[10,24]),(4,[25,26,27,28]),(7,[30,31,32]),(8,[34,35]),(9,[36,37,38,39]),(14,[41,42,43]),(15,[45,46]),(16,[47,48,49,50,51,52,53,54,55,56,57,58,59]),(17,[60,61,62]),(18,[15,64,65,66,67,68,69,70,71]),(19,[13,73])],loopDrop:=zAt [(7,[6,7,8,30,31,32,33,34,35,36,37,38,39,40]),(14,[15,41,42,43,44,45,46,47,48,49,50,51,52,53,54,55,56,57,58,59,60,61,62,64,65,66,67,68,69,70,71])],take:=zAt [(3,[3]),(19,[2,3])]}
def zAq.h65:FHint:={drop:=zAt [(0,[4]),(1,[0,1,5,6,7,8])]}
def zAq.h66:FHint:={drop:=zAt [(0,[2]),(1,[0,3,4])]}
def zAq.h67:FHint:={drop:=zAt [(0,[6]),(1,[8,9,10,11,12,13]),(2,[14,15]),(4,[18,19]),(5,[1,2,20,21,22,23,24,25]),(6,[7,27,28,29,30,31])],take:=zAt [(3,[1]),(7,[1])],mode:=[1,0,0]}
def zAq.h68:FHint:={drop:=zAt [(0,[2]),(1,[3]),(3,[0,5,6])],intr:=1}
def zAq.h69:FHint:={drop:=zAt [(0,[0,4,5]),(1,[11,14]),(2,[16,17]),(3,[7,18]),(4,[20,21,22,23,24]),(8,[29,30,31]),(9,[8,9,32,33,34,35]),(11,[37]),(12,[1,6,38,39,40])],loopDrop:=zAt [(7,[4,5,8,9,28,29,30,31,32,33,34,35,36,37])],take:=zAt [(3,[2])]}
def zAq.h70:FHint:={drop:=zAt [(0,[0,4,5]),(1,[10,11]),(2,[12]),(3,[6,14]),(5,[15,16,17]),(6,[19,20]),(7,[21,22,23,24,25,26,27,28]),(10,[30,31,32]),(11,[34,35]),(13,[36,37]),(14,[39,40]),(15,[41,42,43,44,45,46,47,48]),(17,[1,50,51,52])],loopDrop:=zAt [(5,[4,5,15,16,17,18,19,20,21,22,23,24,25,26,27,28,29]),(10,[4,5,9,30,31,32,33,34,35,36,37,38,39,40,41,42,43,44,45,46,47,48,49]),(13,[4,5,36,37,38,39,40,41,42,43,44,45,46,47,48,49])],take:=zAt [(3,[2])]}
def zAq.h71:FHint:={drop:=zAt [(0,[0,2,3,4]),(1,[14,17]),(2,[18]),(3,[6,20]),(6,[21,22,23]),(8,[27]),(10,[28,29]),(12,[33]),(13,[34,35,36,37]),(14,[11,39,40,41]),(15,[43]),(16,[44,45,46]),(17,[47,48,49,50,51,52,53,54,55,56,57,58,59,60,61,62,63,64,65,66,67,68,69,70,71,72,73]),(18,[12,76]),(19,[77]),(20,[8,79])],loopDrop:=zAt [(7,[9,10,11,12,26,27,28,29,30,31,32,33,34,35,36,37,38,39,40,41,43,44,45,46,47,48,49,50,51,52,53,54,55,56,57,58,59,60,61,62,63,64,65,66,67,68,69,70,71,72,73,74,75,76,77]),(11,[11,32,33,34,35,36,37,38,39,40,41,43])],take:=zAt [(3,[3]),(14,[2]),(18,[2,3]),(20,[2,3])]}
def zAq.h72:FHint:={drop:=zAt [(0,[0,2,3,4]),(1,[11,12]),(2,[13]),(3,[5,15]),(4,[16,17,18]),(8,[20,21,22]),(9,[24,25]),(10,[26,27,28,29,30,31]),(11,[32,33,34,35,36,37,38,39,40,41,42,43,44,45,46,47,48]),(12,[10,54]),(13,[8,56])],loopDrop:=zAt [(8,[10,20,21,22,23,24,25,26,27,28,29,30,31,32,33,34,35,36,37,38,39,40,41,42,43,44,45,46,47,48,49,50,51,52,53,54])],take:=zAt [(3,[3]),(12,[6]),(13,[2,3])],frz:=true}
def zAq.h73:FHint:={drop:=zAt [(0,[2]),(1,[4,5,6]),(2,[7]),(3,[9,10]),(4,[11,12,13,14,15,16,17,18,19])],loopDrop:=zAt [(2,[2,7,8,9,10,11,12,13,14,15,16,17,18,19,20])]}
def zAq.h74:FHint:={drop:=zAt [(0,[4]),(2,[1,8]),(4,[12]),(5,[13,14,15]),(6,[16,17,18]),(7,[6,7,20,21,22,23,24,25,26,27,28,29,30,31,32,33]),(8,[34])],loopDrop:=zAt [(3,[6,7,11,12,13,14,15,16,17,18,20,21,22,23,24,25,26,27,28,29,30,31,32,33,34])],take:=zAt [(9,[1])],mode:=[1,0]}
def zAq.h75:FHint:={drop:=zAt [(1,[1,2,3,4,5,6,7,8,9,10])]}
def zAq.h76:FHint:={drop:=zAt [(0,[4]),(1,[0,1,5,6,7])]}
def zAq.h77:FHint:={drop:=zAt [(0,[4]),(1,[0,1,5,6,7])]}
def zAq.h78:FHint:={drop:=zAt [(0,[6]),(1,[0,1,2,7,8,9,10,11,12,13,14])]}
def zAq.h79:FHint:={drop:=zAt [(0,[1,4]),(1,[0,5,6,7,8])]}
def zAq.h80:FHint:={drop:=zAt [(0,[2]),(1,[0,3,4])]}
def zAq.h81:FHint:={drop:=zAt [(0,[2]),(4,[10,11]),(5,[5,12,13,14]),(6,[15]),(7,[3,16])],loopDrop:=zAt [(3,[5,9,10,11,12,13,14,15])],take:=zAt [(7,[1])]}
def zAq.h82:FHint:={drop:=zAt [(0,[0,1,4,5,6,7,8])],mode:=[1,0]}
def zAq.h83:FHint:={drop:=zAt [(0,[7]),(1,[0,1,2,3,4,8,9,10,11,12,13,14,15,16,17,18,19,20,21,22,23,24])]}
def zAq.h84:FHint:={drop:=zAt [(0,[6]),(1,[0,1,2,7,8,9,10,11,12,13,14])]}
def zAq.h85:FHint:={drop:=zAt [(0,[4]),(1,[6,7,8,9]),(3,[11]),(5,[15]),(6,[5,16,17,18,19,20,21,22,23]),(8,[25])],loopDrop:=zAt [(4,[4,5,14,15,16,17,18,19,20,21,22,23,24,25])]}
def zAq.h86:FHint:={drop:=zAt [(0,[2]),(1,[4,5,6,7,8,9,10,11,12]),(2,[14,15,16,17,18,19,20,21,22,23,24]),(3,[25,26,27,28,29]),(4,[30,31,32,33,34]),(5,[36,37,38,39,40,41,42,43,44,45,46,47,48,49]),(6,[0,50,51,52,53,54,55,56]),(7,[3,57,58,59,60,61,62])],mode:=[1]}
def zAq.h87:FHint:={drop:=zAt [(0,[4]),(1,[0,1,5,6,7,8])]}
def zAq.h88:FHint:={drop:=zAt [(0,[0,4,5]),(1,[11,14]),(2,[16,17]),(3,[7,18]),(4,[20,21,22,23,24,25]),(6,[27,28,29,30,31]),(10,[36,37,38]),(11,[8,9,39,40,41,42]),(13,[44])],loopDrop:=zAt [(9,[4,5,8,9,35,36,37,38,39,40,41,42,43,44])],take:=zAt [(3,[2]),(14,[1])],frz:=true}
def zAq.h89:FHint:={drop:=zAt [(0,[2]),(1,[0,3,4])]}
def zAq.h90:FHint:={drop:=zAt [(4,[12,13,14]),(5,[6,7,15,16,17,18,19,20,21,22,23,24,25,26]),(6,[27]),(7,[28])],loopDrop:=zAt [(3,[6,7,11,12,13,14,15,16,17,18,19,20,21,22,23,24,25,26,27])],take:=zAt [(7,[1])]}
def zAq.h91:FHint:={drop:=zAt [(0,[2]),(1,[4,5]),(2,[0,7,8,9])],take:=zAt [(3,[1])]}
def zAq.h92:FHint:={drop:=zAt [(0,[2]),(1,[0,3])]}
def zAq.h93:FHint:={drop:=zAt [(0,[0,1,4]),(1,[7,8,9,10,11])],mode:=[0,1]}
def zAq.h94:FHint:={drop:=zAt [(0,[0,4]),(1,[8,9]),(2,[10]),(3,[5,12]),(4,[13,14,15,16,17]),(7,[19,20,21]),(8,[23,24]),(9,[25,26,27,28,29,30,31]),(12,[33,34,35]),(13,[37,38]),(14,[39,40,41,42,43,44,45])],loopDrop:=zAt [(7,[4,19,20,21,22,23,24,25,26,27,28,29,30,31,32]),(12,[4,33,34,35,36,37,38,39,40,41,42,43,44,45,46])],take:=zAt [(3,[1])]}
def zAq.h95:FHint:={drop:=zAt [(0,[0,6]),(1,[2]),(3,[15,16,17]),(4,[19,20]),(5,[21,22,23,24,25])],loopDrop:=zAt [(3,[6,15,16,17,18,19,20,21,22,23,24,25,26])]}
def zAq.h96:FHint:={drop:=zAt [(0,[0,6]),(3,[9,10,11]),(4,[13,14]),(5,[15,16,17,18,19]),(6,[21,22,23,24,25]),(7,[7,26])],loopDrop:=zAt [(3,[9,10,11,12,13,14,15,16,17,18,19,20,21,22,23,24,25])],take:=zAt [(7,[1])]}
def zAq.h97:FHint:={drop:=zAt [(0,[6]),(1,[0,8,9]),(2,[1,2,11,12,13,14])],take:=zAt [(2,[4]),(3,[1])]}
def zAq.h98:FHint:={drop:=zAt [(0,[6]),(1,[0,1,2,7,8,9,10,11,12,13,14,15,16,17])]}
def zAq.h99:FHint:={drop:=zAt [(0,[1,4]),(1,[6]),(3,[10]),(4,[11,12,13,14,15]),(5,[5,17]),(6,[18])],loopDrop:=zAt [(2,[4,5,9,10,11,12,13,14,15,16,17,18])],take:=zAt [(5,[1])]}
def zAq.h100:FHint:={drop:=zAt [(0,[1,4]),(1,[6]),(3,[10]),(4,[11,12,13,14,15]),(5,[5,17]),(6,[18])],loopDrop:=zAt [(2,[4,5,9,10,11,12,13,14,15,16,17,18])],take:=zAt [(5,[1])]}
def zAq.h101:FHint:={drop:=zAt [(0,[0,2,3]),(1,[8,9]),(2,[10]),(3,[4,12]),(4,[13,14]),(7,[21,22]),(8,[23,24,25,26,27,28,29,30,31,32,33,34,35,36,37,38,39,40,41,42]),(9,[43])],loopDrop:=zAt [(6,[7,20,21,22,23,24,25,26,27,28,29,30,31,32,33,34,35,36,37,38,39,40,41,42,43])],take:=zAt [(3,[2]),(10,[1])],frz:=true}
def zAq.h102:FHint:={drop:=zAt [(0,[0,1,4,5]),(1,[13]),(3,[14]),(6,[15,16,17]),(7,[18,19,20,21,22,23,24,25]),(8,[32]),(9,[11,37,38,39,40,41,42]),(10,[12,43,44,45,47,48,49,50]),(11,[52])],loopDrop:=zAt [(7,[11,12,18,19,20,21,22,23,24,25,26,27,28,29,30,31,32,33,34,35,36,37,38,39,40,41,42,43,44,45,47,48,49,50])],take:=zAt [(10,[2]),(11,[2])]}
def zAq.h103:FHint:={drop:=zAt [(0,[1,4]),(1,[0,5,6,7,8,9,10,11])]}
def zAq.h104:FHint:={drop:=zAt [(0,[0,4]),(1,[10,11,12,13]),(4,[16,17,18]),(5,[1]),(7,[26,27,28]),(8,[30,31]),(10,[32,33,34]),(11,[36,37]),(12,[38,39,40,41,42,43,44,45,46,47,48,49])],loopDrop:=zAt [(7,[9,26,27,28,29,30,31,32,33,34,35,36,37,38,39,40,41,42,43,44,45,46,47,48,49]),(10,[32,33,34,35,36,37,38,39,40,41,42,43,44,45,46,47,48,49])],take:=zAt [(13,[1])],frz:=true}
def zAq.h105:FHint:={drop:=zAt [(0,[2]),(1,[5,6,7]),(3,[8,9,10]),(4,[12,13]),(5,[14,15,16,17,18,19]),(6,[3,20])],loopDrop:=zAt [(3,[8,9,10,11,12,13,14,15,16,17,18,19])],take:=zAt [(6,[1])]}
def zAq.h106:FHint:={drop:=zAt [(0,[2]),(1,[5,6,7]),(3,[8,9,10]),(4,[12,13]),(5,[14,15,16,17,18,19]),(6,[3,20])],loopDrop:=zAt [(3,[8,9,10,11,12,13,14,15,16,17,18,19])],take:=zAt [(6,[1])]}
def zAq.h107:FHint:={drop:=zAt [(0,[1,4]),(1,[0,5,6,7,8,9,10,11,12,13,14,15])]}
def zAq.h108:FHint:={drop:=zAt [(0,[2]),(1,[4,5,6]),(3,[8,9,10]),(5,[0,12,13,14])]}
def zAq.h109:FHint:={drop:=zAt [(0,[2]),(1,[3]),(3,[0,5,6])],intr:=1}
def zAq.h110:FHint:={drop:=zAt [(0,[2]),(1,[0,3,4])]}
def zAq.h111:FHint:={drop:=zAt [(0,[0,2]),(3,[6]),(4,[7,8])]}
def zAq.h112:FHint:={drop:=zAt [(0,[4]),(1,[6,7,8,9]),(3,[11]),(5,[15]),(6,[5,16,17,18,19,20,21,22,23]),(8,[25])],loopDrop:=zAt [(4,[4,5,14,15,16,17,18,19,20,21,22,23,24,25])]}
def zAq.h113:FHint:={drop:=zAt [(0,[1,4]),(1,[0,5,6,7,8])]}
def zAq.h114:FHint:={drop:=zAt [(0,[0,2]),(1,[3,4,5,6,7,8,9,10])]}
def zAq.h115:FHint:={drop:=zAt [(0,[0,4]),(1,[1,5,6,7,8,9])]}
def zAq.h116:FHint:={drop:=zAt [(0,[4]),(1,[0,1,5,6,7,8,9,10,11,12,13])]}
def zAq.h117:FHint:={drop:=zAt [(0,[0,4]),(1,[1,6,7,8,9,10]),(2,[11,12,13,14,15,16,17,18,19,20,21,22,23,24])]}
def zAq.h118:FHint:={drop:=zAt [(0,[4]),(1,[6]),(3,[10]),(4,[11,12,13,14,15]),(5,[5,17]),(6,[18])],loopDrop:=zAt [(2,[4,5,9,10,11,12,13,14,15,16,17,18])],take:=zAt [(5,[1])],mode:=[0,1]}
def zAq.h119:FHint:={drop:=zAt [(0,[4]),(5,[18,19]),(6,[20,21,22,23,24,25,26,27,28]),(7,[8]),(9,[42,43]),(10,[10,44,45]),(11,[46]),(12,[47]),(16,[51]),(17,[13]),(18,[53,54]),(19,[55]),(20,[56]),(22,[5,11,58,59,60,61,62,63,64])],loopDrop:=zAt [(4,[8,10,17,18,19,20,21,22,23,24,25,26,27,28,30,31,32,33,34,35,36,37,38,39,40,41,42,43,44,45,46,47]),(8,[10,41,42,43,44,45,46]),(15,[13,50,51,52,53,54,55])]}
def zAq.h120:FHint:={drop:=zAt [(0,[0,4]),(3,[12,13,14]),(4,[16,17]),(5,[18,19,20,21,22,23,24,25]),(7,[26,27,28]),(8,[30,31]),(11,[32,33,34]),(12,[36,37]),(13,[38,39,40,41,42,43,44,45,46,47]),(14,[9]),(15,[49,50]),(17,[51,52,53,54,55,56,57,58]),(18,[60,61]),(19,[11,62])],loopDrop:=zAt [(3,[12,13,14,15,16,17,18,19,20,21,22,23,24,25]),(7,[9,10,26,27,28,29,30,31,32,33,34,35,36,37,38,39,40,41,42,43,44,45,46,47,48,49,50]),(11,[32,33,34,35,36,37,38,39,40,41,42,43,44,45,46,47]),(17,[51,52,53,54,55,56,57,58,59,60,61])],take:=zAt [(19,[1])]}
def zAq.h121:FHint:={drop:=zAt [(0,[4]),(3,[13,14,15]),(4,[16,17,18]),(6,[5,20,21,22,23]),(7,[6,7,24,25,26]),(8,[27]),(9,[8,29]),(10,[30]),(11,[0,1,31,32,33,34])],loopDrop:=zAt [(2,[4,5,6,7,8,12,13,14,15,16,17,18,19,20,21,22,23,24,25,26,27,28,29,30])],take:=zAt [(9,[1])]}
def zAq.h122:FHint:={drop:=zAt [(0,[4]),(2,[0,10]),(3,[11,12]),(4,[14,15]),(5,[16,17,18]),(7,[20,21,22]),(8,[24,25]),(9,[26,27,28,29,30,31,32,33,34])],loopDrop:=zAt [(3,[7,8,11,12,13,14,15,16,17,18,19,20,21,22,23,24,25,26,27,28,29,30,31,32,33,34]),(7,[20,21,22,23,24,25,26,27,28,29,30,31,32,33,34])],take:=zAt [(2,[1]),(10,[1])],frz:=true}
def zAq.h123:FHint:={drop:=zAt [(0,[4]),(1,[0,1,5,6,7,8,9,10,11,12,13,14,15,16])]}
def zAq.h124:FHint:={drop:=zAt [(0,[4]),(1,[6,7,8,9]),(3,[11]),(5,[15]),(6,[5,16,17,18,19,20,21,22,23]),(8,[25])],loopDrop:=zAt [(4,[4,5,14,15,16,17,18,19,20,21,22,23,24,25])]}
def zAq.h125:FHint:={drop:=zAt [(0,[6]),(1,[10,11,12,13]),(5,[19]),(6,[7]),(7,[8,9,26,27,28,29]),(9,[31])],loopDrop:=zAt [(4,[6,7,8,9,18,19,20,21,22,23,24,25,26,27,28,29,30,31])]}
def zAq.h126:FHint:={drop:=zAt [(0,[3]),(1,[0,1,4,5,6,7])]}
def zAq.h127:FHint:={drop:=zAt [(1,[10]),(2,[11,12]),(3,[7,14,15,16,17,18]),(4,[19]),(5,[20,21,22]),(6,[7,23,24,25,26,27]),(7,[28,29]),(8,[31,32]),(9,[33,34]),(10,[7,36,37,38,39,40,41,42,43]),(11,[44]),(12,[45,46,47,48]),(13,[49,50,51]),(14,[52,53]),(15,[7,9,55,56,57,58,59,60]),(16,[61,62])],loopDrop:=zAt [(2,[11,12,13,14,15,16,17,18,19,20,21,22]),(7,[7,8,9,28,29,30,31,32,33,34,35,36,37,38,39,40,41,42,43,44,45,46,47,48,49,50,51,52,53,54,55,56,57,58,59,60,61,62]),(9,[33,34,35,36,37,38,39,40,41,42,43,44,45,46,47,48])],mode:=[1,0,0]}
def zAq.h128:FHint:={drop:=zAt [(0,[4]),(1,[6]),(3,[10]),(4,[11,12,13,14,15]),(5,[5,17]),(6,[18])],loopDrop:=zAt [(2,[4,5,9,10,11,12,13,14,15,16,17,18])],take:=zAt [(5,[1])]}
def zAq.h129:FHint:={drop:=zAt [(0,[0,4]),(3,[8,9,10,11])],take:=zAt [(3,[2]),(4,[1])],mode:=[2,0]}
def zAq.h130:FHint:={drop:=zAt [(2,[13,14,15]),(3,[16,17,18,19]),(5,[23]),(6,[8,24,25,26,27,28,29,30,31,32,33,34,35,36,37,38,39,40,41,42,43,44,45,46,47,48,49,50,51,52,53,54,55,56]),(7,[58]),(8,[59])],loopDrop:=zAt [(1,[6,7,8,12,13,14,15,16,17,18,19,20,21,22,23,24,25,26,27,28,29,30,31,32,33,34,35,36,37,38,39,40,41,42,43,44,45,46,47,48,49,50,51,52,53,54,55,56,57,58,59]),(4,[8,22,23,24,25,26,27,28,29,30,31,32,33,34,35,36,37,38,39,40,41,42,43,44,45,46,47,48,49,50,51,52,53,54,55,56,57,58])]}
def zAq.h131:FHint:={drop:=zAt [(0,[0,6]),(1,[13,14,15,16,17,18,19,20]),(2,[2,22,23,24,25,26]),(3,[27,28,29,30,31,32]),(4,[8]),(5,[7,34]),(7,[40]),(9,[48,49]),(10,[11,50,51,52,53,54,55]),(11,[56,57,58,59,60,61]),(12,[12,63]),(13,[64]),(14,[3,65,66,67]),(15,[9,68])],loopDrop:=zAt [(8,[11,12,47,48,49,50,51,52,53,54,55,56,57,58,59,60,61,62,63,64])],take:=zAt [(5,[1]),(12,[1]),(15,[1])],mode:=[0,1,1,1,1]}
def zAq.h132:FHint:={drop:=zAt [(0,[1]),(1,[0,2,7,8,9,10,11,12,13,14,15,16,17,18,19,20,21]),(2,[22,23,24,25]),(3,[26])],take:=zAt [(3,[1])]}
def zAq.h133:FHint:={drop:=zAt [(0,[6]),(1,[0,1,2,3,4,7,8,9,10,11,12,13,14])],mode:=[0,1,1,1,1]}
def zAq.h134:FHint:={drop:=zAt [(0,[2]),(1,[0,3,4])]}
def zAq.h135:FHint:={drop:=zAt [(0,[10,11,12,13,14,15,16,17,18,19]),(1,[0,2,21,22,23,24]),(2,[25,26,27]),(3,[29]),(5,[33]),(6,[34,35,36,37,38,39,40,41,42,43]),(7,[44,45,46,47]),(8,[6,48,49,50,51,52,53,54,55,56,57,58,59,60,61]),(9,[62]),(10,[63,64,65,66,67]),(11,[0,2,68,69,70,71]),(12,[3,72,73,74,75,76]),(13,[1,77,78,79]),(14,[7,80,81,82,83,84,85,86]),(19,[9,94,95,96,97,98]),(20,[99])],loopDrop:=zAt [(4,[6,32,33,34,35,36,37,38,39,40,41,42,43,44,45,46,47,48,49,50,51,52,53,54,55,56,57,58,59,60,61,62]),(17,[9,91,92,93,94,95,96,97,98,99])],mode:=[0,1,1,1,1]}
def zAq.h136:FHint:={drop:=zAt [(0,[1,4]),(1,[0,5,6,7,8])]}
def zAq.h137:FHint:={drop:=zAt [(0,[3]),(4,[11,12]),(5,[6,13,14,15,16,17,18]),(6,[19]),(7,[4,20,21])],loopDrop:=zAt [(3,[6,10,11,12,13,14,15,16,17,18,19])]}
def zAq.h138:FHint:={drop:=zAt [(0,[4]),(1,[0,1,5,6,7,8])]}
def zAq.h139:FHint:={drop:=zAt [(0,[0,3]),(1,[1,4,5,6,7])]}
def zAq.h140:FHint:={drop:=zAt [(0,[4]),(1,[7,8]),(2,[9,10]),(3,[5]),(4,[6]),(7,[6]),(9,[14,15]),(11,[0,1,17,18])]}
def zAq.h141:FHint:={drop:=zAt [(0,[2]),(1,[0,3,4,5])]}
def zAq.h142:FHint:={drop:=zAt [(0,[10,11]),(1,[12,13]),(2,[15,16]),(3,[17]),(4,[18,19,20,21,22,23,24,25,26,27,28,29,30,31,32,33]),(5,[35,36]),(6,[37,38,39,40,41,42,43,44,45,46,47,48,49,50,51,52])],loopDrop:=zAt [(1,[9,12,13,14,15,16,17,18,19,20,21,22,23,24,25,26,27,28,29,30,31,32,33,34,35,36,37,38,39,40,41,42,43,44,45,46,47,48,49,50,51,52]),(4,[18,19,20,21,22,23,24,25,26,27,28,29,30,31,32,33,34,35,36,37,38,39,40,41,42,43,44,45,46,47,48,49,50,51,52])],mode:=[1,0,0,0]}
def zAq.h143:FHint:={drop:=zAt [(0,[25,26,27]),(1,[2,29]),(2,[3,30]),(3,[31,32]),(4,[34,35,36,37,38,39]),(5,[40,41,42,43,44,45,46,47,48,49]),(6,[12,51,52]),(7,[12,53]),(8,[1,54]),(9,[55,56,57]),(10,[59,60]),(11,[61,62,63,64,65,66,67,68,69,70,71,72,73,74,75,76]),(12,[77,78,79]),(13,[1,81]),(14,[82]),(15,[83,84]),(16,[86,87,88,89,90,91]),(17,[92,93,94,95,96,97,98,99,100,101,102]),(18,[16,104,105]),(19,[16,106]),(20,[2,107]),(21,[108,109]),(22,[111,112]),(23,[113,114,115,116,117,118,119,120,121,122,123,124,125,126,127,128]),(24,[129,130,131,132,133,134]),(25,[135,136,137]),(26,[20,21]),(27,[138,139]),(28,[141,142,143]),(29,[144]),(30,[145]),(31,[146]),(32,[147,148]),(33,[149,150]),(34,[152,153,154,155,156,157]),(35,[158,159,160,161,162,163,164,165,166,167,168,169,170]),(36,[23,172,173]),(37,[23,174]),(38,[19,175,176,177]),(39,[178,179,180,181,182,183,184]),(40,[2,186,187,188,189,190,191]),(41,[192,193,194,195,196,197,198]),(42,[1,20,200,201,202,203,204,205]),(43,[206,207,208,209,210,211,212]),(44,[0,3,4,18,24,214,215,216,217,218,219])],loopDrop:=zAt [(3,[12,31,32,33,34,35,36,37,38,39,40,41,42,43,44,45,46,47,48,49,50,51,52,53]),(9,[55,56,57,58,59,60,61,62,63,64,65,66,67,68,69,70,71,72,73,74,75,76]),(15,[16,83,84,85,86,87,88,89,90,91,92,93,94,95,96,97,98,99,100,101,102,103,104,105,106]),(21,[108,109,110,111,112,113,114,115,116,117,118,119,120,121,122,123,124,125,126,127,128]),(33,[23,149,150,151,152,153,154,155,156,157,158,159,160,161,162,163,164,165,166,167,168,169,170,171,172,173,174])],take:=zAt [(1,[1]),(2,[1]),(7,[1]),(8,[1]),(13,[1]),(19,[1]),(20,[1]),(37,[1])]}
def zAq.h144:FHint:={drop:=zAt [(0,[4]),(1,[0,1,5,6,7,8])]}
def zAq.h145:FHint:={drop:=zAt [(0,[3]),(1,[0,1,4,5,6,7])]}
def zAq.h146:FHint:={drop:=zAt [(0,[4]),(1,[6]),(3,[10]),(4,[11,12,13,14,15]),(5,[5,17]),(6,[18])],loopDrop:=zAt [(2,[4,5,9,10,11,12,13,14,15,16,17,18])],take:=zAt [(5,[1])]}
def zAq.h147:FHint:={drop:=zAt [(0,[1,12,13,14]),(1,[3,15,16,17]),(2,[18,19]),(3,[21,22]),(4,[24,25,26,27,28,29,30,31]),(5,[32,33,34]),(6,[35,36,37,38,39,40,41,42,43,44,45,46]),(7,[47,48,49]),(8,[0,2,4,10,50,51,52,53,54,55,56,57])],loopDrop:=zAt [(2,[18,19,20,21,22,23,24,25,26,27,28,29,30,31,32,33,34,35,36,37,38,39,40,41,42,43,44,45,46,47,48,49])]}
def zAq.h148:FHint:={drop:=zAt [(0,[4]),(1,[6]),(3,[10]),(4,[11,12,13,14,15]),(5,[5,17]),(6,[18])],loopDrop:=zAt [(2,[4,5,9,10,11,12,13,14,15,16,17,18])],take:=zAt [(5,[1])]}
def zAq.h149:FHint:={drop:=zAt [(1,[11,12]),(2,[14,15]),(3,[16,17,18,19,20,21,22,23,24,25,26,27,28,29,30,31,32,33,34,35,36,37])],loopDrop:=zAt [(1,[11,12,13,14,15,16,17,18,19,20,21,22,23,24,25,26,27,28,29,30,31,32,33,34,35,36,37])]}
def zAq:zBh:=fun f=>zU2 [(3,zAq.h3),(4,zAq.h4),(5,zAq.h5),(6,zAq.h6),(7,zAq.h7),(8,zAq.h8),(9,zAq.h9),(10,zAq.h10),(11,zAq.h11),(12,zAq.h12),(13,zAq.h13),(14,zAq.h14),(15,zAq.h15),(16,zAq.h16),(17,zAq.h17),(18,zAq.h18),(19,zAq.h19),(20,zAq.h20),(21,zAq.h21),(22,zAq.h22),(23,zAq.h23),(24,zAq.h24),(25,zAq.h25),(26,zAq.h26),(27,zAq.h27),(28,zAq.h28),(29,zAq.h29),(30,zAq.h30),(31,zAq.h31),(32,zAq.h32),(33,zAq.h33),(34,zAq.h34),(35,zAq.h35),(36,zAq.h36),(37,zAq.h37),(38,zAq.h38),(39,zAq.h39),(40,zAq.h40),(41,zAq.h41),(42,zAq.h42),(43,zAq.h43),(44,zAq.h44),(45,zAq.h45),(46,zAq.h46),(47,zAq.h47),(48,zAq.h48),(49,zAq.h49),(50,zAq.h50),(51,zAq.h51),(52,zAq.h52),(53,zAq.h53),(54,zAq.h54),(55,zAq.h55),(56,zAq.h56),(57,zAq.h57),(58,zAq.h58),(59,zAq.h59),(60,zAq.h60),(61,zAq.h61),(62,zAq.h62),(63,zAq.h63),(64,zAq.h64),(65,zAq.h65),(66,zAq.h66),(67,zAq.h67),(68,zAq.h68),(69,zAq.h69),(70,zAq.h70),(71,zAq.h71),(72,zAq.h72),(73,zAq.h73),(74,zAq.h74),(75,zAq.h75),(76,zAq.h76),(77,zAq.h77),(78,zAq.h78),(79,zAq.h79),(80,zAq.h80),(81,zAq.h81),(82,zAq.h82),(83,zAq.h83),(84,zAq.h84),(85,zAq.h85),(86,zAq.h86),(87,zAq.h87),(88,zAq.h88),(89,zAq.h89),(90,zAq.h90),(91,zAq.h91),(92,zAq.h92),(93,zAq.h93),(94,zAq.h94),(95,zAq.h95),(96,zAq.h96),(97,zAq.h97),(98,zAq.h98),(99,zAq.h99),(100,zAq.h100),(101,zAq.h101),(102,zAq.h102),(103,zAq.h103),(104,zAq.h104),(105,zAq.h105),(106,zAq.h106),(107,zAq.h107),(108,zAq.h108),(109,zAq.h109),(110,zAq.h110),(111,zAq.h111),(112,zAq.h112),(113,zAq.h113),(114,zAq.h114),(115,zAq.h115),(116,zAq.h116),(117,zAq.h117),(118,zAq.h118),(119,zAq.h119),(120,zAq.h120),(121,zAq.h121),(122,zAq.h122),(123,zAq.h123),(124,zAq.h124),(125,zAq.h125),(126,zAq.h126),(127,zAq.h127),(128,zAq.h128),(129,zAq.h129),(130,zAq.h130),(131,zAq.h131),(132,zAq.h132),(133,zAq.h133),(134,zAq.h134),(135,zAq.h135),(136,zAq.h136),(137,zAq.h137),(138,zAq.h138),(139,zAq.h139),(140,zAq.h140),(141,zAq.h141),(142,zAq.h142),(143,zAq.h143),(144,zAq.h144),(145,zAq.h145),(146,zAq.h146),(147,zAq.h147),(148,zAq.h148),(149,zAq.h149)] f
end Go.Eng
namespace Go.Eng
open Go
abbrev Al:=PV→Value→Prop
def zCn:Al:=fun _ _=>False
def zFf (w:World) (b:Nat) (c:Array Value):Prop:=∃ e,w.heap[b]? = some (.cells c e (0,0))
def zIO (w:World) (b:Nat) (c:Array Value):Prop:=∃ e fz,w.heap[b]? = some (.cells c e fz)
def seg (c:Array Value) (o n:Nat):List Value:=(c.toList.drop o).take n
def zCf:Value→Bool
 | .agg _=>true
 | _=>false
def flat (us:List Value):List Value:=us.flatMap fun u=>u.cells.toList
mutual
def Rep (w:World) (Φ:Nat→Prop) (A:Al):PV→Value→List Nat→Prop
 | .bad,_,L=>L=[]
 | .und,v,L=>v=undef∧L=[]
 | .int k n,v,L=>v = .int k n∧L=[]
 | .bool b,v,L=>v = .bool b∧L=[]
 | .nilp,v,L=>v = .pointer none∧L=[]
 | .nilf,v,L=>v = .nilFunc∧L=[]
 | .nilm,v,L=>v = .map none∧L=[]
 | .nn,v,L=>L=[]∧∃ a n,v = .slice (some a) 0 n
 | .nils _,v,L=>v = .slice none 0 0∧L=[]
 | .agg cs,v,L=>∃ vs:Array Value,v = .agg vs∧zAZ w Φ A cs vs.toList L
 | .tup cs,v,L=>∃ vs:Array Value,v = .tuple vs∧zAZ w Φ A cs vs.toList L
 | .sl xs,v,L=>L=[]∧((xs=[]∧∃ a n,v = .slice a 0 n∧(a=none→n=0))∨∃ a n c us sz,v = .slice (some a) xs.length n∧a.spot=none∧xs.length≤n∧Φ a.block∧zIO w a.block c ∧
   (∀ x∈xs,x.cells.length=sz)∧((∀ u∈us,u.cells.size=sz)∧us.map zCf=xs.map PV.isAgg)∧seg c a.off (xs.length*sz)=flat us∧zAZ w Φ zCn xs us [])
 | .own sz xs,v,L=>(xs=[]∧L=[]∧v = .slice none 0 0)∨∃ a n c us L',L=a.block::L'∧v = .slice (some a) xs.length n∧a.spot=none∧xs.length≤n∧zFf w a.block c∧a.off+n*sz≤c.size ∧
   (∀ x∈xs,x.cells.length=sz)∧((∀ u∈us,u.cells.size=sz)∧us.map zCf=xs.map PV.isAgg)∧seg c a.off (xs.length*sz)=flat us∧zAZ w Φ zCn xs us L'
 | .ref q,v,L=>L=[]∧∃ a c u,v = .pointer (some a)∧a.spot=none∧Φ a.block∧zIO w a.block c∧seg c a.off q.cells.length=u.cells.toList∧(u.cells.size=q.cells.length∧zCf u=q.isAgg)∧Rep w Φ A q u []
 | .box q,v,L=>∃ a c u L',L=a.block::L'∧v = .pointer (some a)∧a.spot=none∧zFf w a.block c∧seg c a.off q.cells.length=u.cells.toList∧(u.cells.size=q.cells.length∧zCf u=q.isAgg)∧Rep w Φ A q u L'
 | .map es,v,L=>L=[]∧∃ b ents,v = .map (some b)∧Φ b∧w.heap[b]? = some (.map ents es.length)∧zEq w Φ es ents.toList 0
 | .omap es,v,L=>∃ b ents,L=[b]∧v = .map (some b)∧w.heap[b]? = some (.map ents es.length)∧zEq w Φ es ents.toList 0
 | .func f first caps,v,L=>L=[]∧∃ fs cs:Array Value,v = .func (.func f) fs cs∧zAZ w Φ A first fs.toList []∧zAZ w Φ A caps cs.toList []
 | .addr r pre i c sh,v,L=>L=[]∧A (.addr r pre i c sh) v
 | .bor r pre z lo n,v,L=>L=[]∧A (.bor r pre z lo n) v
 | .bsl r pre i c sz ag n,v,L=>L=[]∧A (.bsl r pre i c sz ag n) v
 | .bmap r pre,v,L=>L=[]∧A (.bmap r pre) v
 | .lock q,v,L=>Rep w Φ A q v L
 | .yld h,v,L=>L=[]∧v = .func (.yield h) #[] #[]
 | .log xs k,v,L=>L=[]∧A (.log xs k) v
def zAZ (w:World) (Φ:Nat→Prop) (A:Al):List PV→List Value→List Nat→Prop
 | [],vs,L=>vs=[]∧L=[]
 | p::ps,vs,L=>∃ v vs' L1 L2,vs=v::vs'∧L=L1++L2∧Rep w Φ A p v L1∧zAZ w Φ A ps vs' L2
def zEq (w:World) (Φ:Nat→Prop):List (PV×PV)→List MapEntry→Nat→Prop
 | [],es,_=>es=[]
 | (k,p)::ps,es,i=>∃ e es',es=e::es'∧e.born=i∧Rep w Φ zCn k e.key []∧Rep w Φ zCn p e.val []∧zEq w Φ ps es' (i+1)
end
section
variable {w w':World} {Φ Φ':Nat→Prop}
theorem zHA {f:PV→PV} (hf:∀ p,(f p).isAgg=p.isAgg) (p:PV):(p.mapW f).cells.length=p.cells.length:=by
 have one:∀ p:PV,p.isAgg=false→p.cells.length=1:=by intro p h;cases p<;>simp_all [PV.isAgg,PV.cells]
 have len:∀ ps:List PV,(zCK f ps).length=ps.length:=by
  intro ps;induction ps with
  | nil=>rfl
  | cons p ps ih=>simp [zCK,ih]
 cases p with
 | agg cs=>simp [PV.mapW,PV.cells,len]
 | addr r pre i c sh=>rw [PV.mapW,one _ (by rw [hf];rfl),one _ rfl]
 | bor r pre z lo n=>rw [PV.mapW,one _ (by rw [hf];rfl),one _ rfl]
 | bsl r pre i c z ag n=>rw [PV.mapW,one _ (by rw [hf];rfl),one _ rfl]
 | bmap r pre=>rw [PV.mapW,one _ (by rw [hf];rfl),one _ rfl]
 | log xs k=>rw [PV.mapW,one _ (by rw [hf];rfl),one _ rfl]
 | _=>rfl
theorem zF4 {f:PV→PV} (hf:∀ p,(f p).isAgg=p.isAgg) (p:PV):(p.mapW f).isAgg=p.isAgg:=by
 cases p<;>first | rfl | exact hf _
mutual
theorem Rep.map {A A':Al} {f:PV→PV} (hf:∀ p,(f p).isAgg=p.isAgg) (hΦ:∀ b,Φ b→Φ' b∧w'.heap[b]? = w.heap[b]?) (hA:∀ a v,a.isWay=true→A a v→Rep w' Φ' A' (f a) v []) :
  ∀ (p:PV) (v:Value) (L:List Nat),(∀ b∈L,w'.heap[b]? = w.heap[b]?)→Rep w Φ A p v L→Rep w' Φ' A' (p.mapW f) v L
 | .bad,_,_,_,h=>by simpa [Rep,PV.mapW] using h
 | .und,_,_,_,h=>by simpa [Rep,PV.mapW] using h
 | .int ..,_,_,_,h=>by simpa [Rep,PV.mapW] using h
 | .bool _,_,_,_,h=>by simpa [Rep,PV.mapW] using h
 | .nilp,_,_,_,h=>by simpa [Rep,PV.mapW] using h
 | .nilf,_,_,_,h=>by simpa [Rep,PV.mapW] using h
 | .nilm,_,_,_,h=>by simpa [Rep,PV.mapW] using h
 | .nn,_,_,_,h=>by simpa [Rep,PV.mapW] using h
 | .nils _,_,_,_,h=>by simpa [Rep,PV.mapW] using h
 | .agg cs,v,L,hw,h=>by
  obtain ⟨vs,rfl,h⟩:=h
  exact ⟨vs,rfl,zAZ.map hf hΦ hA cs _ L hw h⟩
 | .tup cs,v,L,hw,h=>by
  obtain ⟨vs,rfl,h⟩:=h
  exact ⟨vs,rfl,zAZ.map hf hΦ hA cs _ L hw h⟩
 | .sl xs,v,L,hw,h=>by
  obtain ⟨rfl,h | ⟨a,n,c,us,sz,h1,h2,h3,h4,⟨e,fz,h5⟩,h6,h7,h8,h9⟩⟩:=h
  ·exact ⟨rfl,.inl h⟩
  ·have:=zAZ.same (A:=zCn) hΦ xs us [] (by simp) h9
   exact ⟨rfl,.inr ⟨a,n,c,us,sz,h1,h2,h3,(hΦ _ h4).1,⟨e,fz,(hΦ _ h4).2.trans h5⟩,h6,h7,h8,this⟩⟩
 | .own sz xs,v,L,hw,h=>by
  obtain h | ⟨a,n,c,us,L',rfl,h1,h2,h3,⟨e,h5⟩,h6,h7,h8,h9,h10⟩:=h
  ·exact .inl h
  ·have:=zAZ.same (A:=zCn) hΦ xs us L' (fun b hb=>hw b (by simp [hb])) h10
   exact .inr ⟨a,n,c,us,L',rfl,h1,h2,h3,⟨e,(hw _ (by simp)).trans h5⟩,h6,h7,h8,h9,this⟩
 | .ref q,v,L,hw,h=>by
  obtain ⟨rfl,a,c,u,h1,h2,h3,⟨e,fz,h4⟩,h5,h6,h7⟩:=h
  have hc:(q.mapW f).cells.length=q.cells.length:=zHA hf q
  exact ⟨rfl,a,c,u,h1,h2,(hΦ _ h3).1,⟨e,fz,(hΦ _ h3).2.trans h4⟩,by rw [hc];exact h5,by rw [hc,zF4 hf];exact h6,Rep.map hf hΦ hA q u [] (by simp) h7⟩
 | .box q,v,L,hw,h=>by
  obtain ⟨a,c,u,L',rfl,h1,h2,⟨e,h4⟩,h5,h6,h7⟩:=h
  have hc:(q.mapW f).cells.length=q.cells.length:=zHA hf q
  exact ⟨a,c,u,L',rfl,h1,h2,⟨e,(hw _ (by simp)).trans h4⟩,by rw [hc];exact h5,by rw [hc,zF4 hf];exact h6,Rep.map hf hΦ hA q u L' (fun b hb=>hw b (by simp [hb])) h7⟩
 | .map es,v,L,hw,h=>by
  obtain ⟨rfl,b,ents,h1,h2,h3,h4⟩:=h
  exact ⟨rfl,b,ents,h1,(hΦ _ h2).1,(hΦ _ h2).2.trans h3,zEq.same hΦ es _ _ h4⟩
 | .omap es,v,L,hw,h=>by
  obtain ⟨b,ents,rfl,h1,h3,h4⟩:=h
  exact ⟨b,ents,rfl,h1,(hw _ (by simp)).trans h3,zEq.same hΦ es _ _ h4⟩
 | .func g a b,v,L,hw,h=>by
  obtain ⟨rfl,fs,cs,h1,h2,h3⟩:=h
  exact ⟨rfl,fs,cs,h1,zAZ.map hf hΦ hA a _ [] (by simp) h2,zAZ.map hf hΦ hA b _ [] (by simp) h3⟩
 | .addr ..,v,L,hw,h=>by obtain ⟨rfl,h⟩:=h;exact hA _ _ rfl h
 | .bor ..,v,L,hw,h=>by obtain ⟨rfl,h⟩:=h;exact hA _ _ rfl h
 | .bsl ..,v,L,hw,h=>by obtain ⟨rfl,h⟩:=h;exact hA _ _ rfl h
 | .bmap ..,v,L,hw,h=>by obtain ⟨rfl,h⟩:=h;exact hA _ _ rfl h
 | .lock q,v,L,hw,h=>Rep.map hf hΦ hA q v L hw h
 | .yld _,v,L,hw,h=>h
 | .log ..,v,L,hw,h=>by obtain ⟨rfl,h⟩:=h;exact hA _ _ rfl h
theorem zAZ.map {A A':Al} {f:PV→PV} (hf:∀ p,(f p).isAgg=p.isAgg) (hΦ:∀ b,Φ b→Φ' b∧w'.heap[b]? = w.heap[b]?) (hA:∀ a v,a.isWay=true→A a v→Rep w' Φ' A' (f a) v []) :
  ∀ (ps:List PV) (vs:List Value) (L:List Nat),(∀ b∈L,w'.heap[b]? = w.heap[b]?)→zAZ w Φ A ps vs L→zAZ w' Φ' A' (zCK f ps) vs L
 | [],_,_,_,h=>h
 | p::ps,vs,L,hw,h=>by
  obtain ⟨v,vs',L1,L2,rfl,rfl,h1,h2⟩:=h
  exact ⟨v,vs',L1,L2,rfl,rfl,Rep.map hf hΦ hA p v L1 (fun b hb=>hw b (by simp [hb])) h1,zAZ.map hf hΦ hA ps vs' L2 (fun b hb=>hw b (by simp [hb])) h2⟩
theorem Rep.same {A:Al} (hΦ:∀ b,Φ b→Φ' b∧w'.heap[b]? = w.heap[b]?) :
  ∀ (p:PV) (v:Value) (L:List Nat),(∀ b∈L,w'.heap[b]? = w.heap[b]?)→Rep w Φ zCn p v L→Rep w' Φ' A p v L
 | .bad,_,_,_,h=>h
 | .und,_,_,_,h=>h
 | .int ..,_,_,_,h=>h
 | .bool _,_,_,_,h=>h
 | .nilp,_,_,_,h=>h
 | .nilf,_,_,_,h=>h
 | .nilm,_,_,_,h=>h
 | .nn,_,_,_,h=>h
 | .nils _,_,_,_,h=>h
 | .agg cs,v,L,hw,h=>by
  obtain ⟨vs,rfl,h⟩:=h
  exact ⟨vs,rfl,zAZ.same hΦ cs _ L hw h⟩
 | .tup cs,v,L,hw,h=>by
  obtain ⟨vs,rfl,h⟩:=h
  exact ⟨vs,rfl,zAZ.same hΦ cs _ L hw h⟩
 | .sl xs,v,L,hw,h=>by
  obtain ⟨rfl,h | ⟨a,n,c,us,sz,h1,h2,h3,h4,⟨e,fz,h5⟩,h6,h7,h8,h9⟩⟩:=h
  ·exact ⟨rfl,.inl h⟩
  ·have:=zAZ.same (A:=zCn) hΦ xs us [] (by simp) h9
   exact ⟨rfl,.inr ⟨a,n,c,us,sz,h1,h2,h3,(hΦ _ h4).1,⟨e,fz,(hΦ _ h4).2.trans h5⟩,h6,h7,h8,this⟩⟩
 | .own sz xs,v,L,hw,h=>by
  obtain h | ⟨a,n,c,us,L',rfl,h1,h2,h3,⟨e,h5⟩,h6,h7,h8,h9,h10⟩:=h
  ·exact .inl h
  ·have:=zAZ.same (A:=zCn) hΦ xs us L' (fun b hb=>hw b (by simp [hb])) h10
   exact .inr ⟨a,n,c,us,L',rfl,h1,h2,h3,⟨e,(hw _ (by simp)).trans h5⟩,h6,h7,h8,h9,this⟩
 | .ref q,v,L,hw,h=>by
  obtain ⟨rfl,a,c,u,h1,h2,h3,⟨e,fz,h4⟩,h5,h6,h7⟩:=h
  exact ⟨rfl,a,c,u,h1,h2,(hΦ _ h3).1,⟨e,fz,(hΦ _ h3).2.trans h4⟩,h5,h6,Rep.same hΦ q u [] (by simp) h7⟩
 | .box q,v,L,hw,h=>by
  obtain ⟨a,c,u,L',rfl,h1,h2,⟨e,h4⟩,h5,h6,h7⟩:=h
  exact ⟨a,c,u,L',rfl,h1,h2,⟨e,(hw _ (by simp)).trans h4⟩,h5,h6,Rep.same hΦ q u L' (fun b hb=>hw b (by simp [hb])) h7⟩
 | .map es,v,L,hw,h=>by
  obtain ⟨rfl,b,ents,h1,h2,h3,h4⟩:=h
  exact ⟨rfl,b,ents,h1,(hΦ _ h2).1,(hΦ _ h2).2.trans h3,zEq.same hΦ es _ _ h4⟩
 | .omap es,v,L,hw,h=>by
  obtain ⟨b,ents,rfl,h1,h3,h4⟩:=h
  exact ⟨b,ents,rfl,h1,(hw _ (by simp)).trans h3,zEq.same hΦ es _ _ h4⟩
 | .func g a b,v,L,hw,h=>by
  obtain ⟨rfl,fs,cs,h1,h2,h3⟩:=h
  exact ⟨rfl,fs,cs,h1,zAZ.same hΦ a _ [] (by simp) h2,zAZ.same hΦ b _ [] (by simp) h3⟩
 | .addr ..,v,L,hw,h=>h.2.elim
 | .bor ..,v,L,hw,h=>h.2.elim
 | .bsl ..,v,L,hw,h=>h.2.elim
 | .bmap ..,v,L,hw,h=>h.2.elim
 | .lock q,v,L,hw,h=>Rep.same hΦ q v L hw h
 | .yld _,v,L,hw,h=>h
 | .log ..,v,L,hw,h=>h.2.elim
theorem zAZ.same {A:Al} (hΦ:∀ b,Φ b→Φ' b∧w'.heap[b]? = w.heap[b]?) :
  ∀ (ps:List PV) (vs:List Value) (L:List Nat),(∀ b∈L,w'.heap[b]? = w.heap[b]?)→zAZ w Φ zCn ps vs L→zAZ w' Φ' A ps vs L
 | [],_,_,_,h=>h
 | p::ps,vs,L,hw,h=>by
  obtain ⟨v,vs',L1,L2,rfl,rfl,h1,h2⟩:=h
  exact ⟨v,vs',L1,L2,rfl,rfl,Rep.same hΦ p v L1 (fun b hb=>hw b (by simp [hb])) h1,zAZ.same hΦ ps vs' L2 (fun b hb=>hw b (by simp [hb])) h2⟩
theorem zEq.same (hΦ:∀ b,Φ b→Φ' b∧w'.heap[b]? = w.heap[b]?):∀ (ps:List (PV×PV)) (es:List MapEntry) (i:Nat),zEq w Φ ps es i→zEq w' Φ' ps es i
 | [],_,_,h=>h
 | (k,p)::ps,es,i,h=>by
  obtain ⟨e,es',rfl,h0,h1,h2,h3⟩:=h
  exact ⟨e,es',rfl,h0,Rep.same hΦ k _ [] (by simp) h1,Rep.same hΦ p _ [] (by simp) h2,zEq.same hΦ ps es' (i+1) h3⟩
end
end
mutual
theorem zBg:∀ p:PV,p.mapW (fun x=>x)=p
 | .agg cs=>by rw [PV.mapW,zF5]
 | .tup cs=>by rw [PV.mapW,zF5]
 | .func g a b=>by rw [PV.mapW,zF5,zF5]
 | .ref q=>by rw [PV.mapW,zBg]
 | .box q=>by rw [PV.mapW,zBg]
 | .lock q=>by rw [PV.mapW,zBg]
 | .addr .. => rfl
 | .bor .. => rfl
 | .bsl .. => rfl
 | .bmap .. => rfl
 | .yld .. => rfl
 | .log .. => rfl
 | .bad=>rfl
 | .und=>rfl
 | .int .. => rfl
 | .bool .. => rfl
 | .nilp=>rfl
 | .nilf=>rfl
 | .nilm=>rfl
 | .nn=>rfl
 | .nils _=>rfl
 | .sl _=>rfl
 | .own .. => rfl
 | .map _=>rfl
 | .omap _=>rfl
theorem zF5:∀ ps:List PV,zCK (fun x=>x) ps=ps
 | []=>rfl
 | p::ps=>by rw [zCK,zBg,zF5]
end
def zDo (w w':World) (Φ Φ':Nat→Prop):Prop:=∀ b,Φ b→Φ' b∧w'.heap[b]? = w.heap[b]?
theorem zCW {w:World} {Φ:Nat→Prop} {A:Al} {a:PV} {v:Value} (hw:a.isWay=true) (h:A a v):Rep w Φ A a v []:=by
 cases a<;>first | exact ⟨rfl,h⟩ | exact absurd hw (by simp [PV.isWay])
section
variable {w w':World} {Φ Φ':Nat→Prop} {A A':Al}
theorem Rep.mono (hΦ:zDo w w' Φ Φ') (hA:∀ a v,a.isWay=true→A a v→A' a v) {p:PV} {v:Value} {L:List Nat} (hw:∀ b∈L,w'.heap[b]? = w.heap[b]?) (h:Rep w Φ A p v L):Rep w' Φ' A' p v L:=by
 have:=Rep.map (f:=fun x=>x) (fun _=>rfl) hΦ (fun a v hw h=>zCW hw (hA a v hw h)) p v L hw h
 rwa [zBg] at this
theorem zAZ.mono (hΦ:zDo w w' Φ Φ') (hA:∀ a v,a.isWay=true→A a v→A' a v) {p:List PV} {v:List Value} {L:List Nat} (hw:∀ b∈L,w'.heap[b]? = w.heap[b]?) (h:zAZ w Φ A p v L):zAZ w' Φ' A' p v L:=by
 have:=zAZ.map (f:=fun x=>x) (fun _=>rfl) hΦ (fun a v hw h=>zCW hw (hA a v hw h)) p v L hw h
 rwa [zF5] at this
theorem zDo.refl:zDo w w Φ Φ:=fun _ h=>⟨h,rfl⟩
theorem zAZ.split:∀ {ps:List PV} {vs:List Value} {L:List Nat},zAZ w Φ A ps vs L→∀ {i:Nat} {p:PV},ps[i]? = some p →
  ∃ v La Li Lb,vs[i]? = some v∧L=La++Li++Lb∧Rep w Φ A p v Li ∧
   (∀ w' Φ' (A':Al) p' Li',(∀ a v,a.isWay=true→A a v→A' a v)→zDo w w' Φ Φ'→(∀ b∈La++Lb,w'.heap[b]? = w.heap[b]?)→Rep w' Φ' A' p' v Li'→zAZ w' Φ' A' (ps.set i p') vs (La++Li'++Lb)) ∧
   ∀ j p2,j≠i→ps[j]? = some p2→∃ v2 L2,vs[j]? = some v2∧Rep w Φ A p2 v2 L2∧∀ b∈L2,b∈La++Lb
 | [],_,_,_,_,_,hp=>by simp at hp
 | q :: ps,vs,L,h,0,p,hp=>by
  obtain ⟨v,vs',L1,L2,rfl,rfl,h1,h2⟩:=h
  simp at hp;subst hp
  refine ⟨v,[],L1,L2,rfl,by simp,h1,?_,?_⟩
  ·intro w' Φ' A' p' Li' hA hs hb hr
   exact ⟨v,vs',Li',L2,rfl,by simp,hr,h2.mono hs hA (by simpa using hb)⟩
  ·intro j p2 hj uF
   cases j with
   | zero=>exact absurd rfl hj
   | succ j =>
    obtain ⟨v2,La,Li,Lb,ka,rfl,LF,_⟩:=h2.split (i:=j) (p:=p2) (by simpa using uF)
    exact ⟨v2,Li,by simpa using ka,LF,fun b hb=>by simp [hb]⟩
 | q :: ps,vs,L,h,i+1,p,hp=>by
  obtain ⟨v,vs',L1,L2,rfl,rfl,h1,h2⟩:=h
  obtain ⟨u,La,Li,Lb,hu,rfl,hr,hk,ho⟩:=h2.split (i:=i) (by simpa using hp)
  refine ⟨u,L1++La,Li,Lb,by simpa using hu,by simp,hr,?_,?_⟩
  rotate_left
  ·intro j p2 hj uF
   cases j with
   | zero=>simp at uF;subst uF;exact ⟨v,L1,rfl,h1,fun b hb=>by simp [hb]⟩
   | succ j =>
    obtain ⟨v2,L2,jX,jF,vT⟩:=ho j p2 (by omega) (by simpa using uF)
    exact ⟨v2,L2,by simpa using jX,jF,fun b hb=>by have:=vT b hb;simp at this ⊢;rcases this with h | h<;>simp [h]⟩
  intro w' Φ' A' p' Li' hA hs hb yx
  exact ⟨v,vs',L1,La++Li'++Lb,rfl,by simp,h1.mono hs hA (fun b h=>hb b (by simp [h])),hk w' Φ' A' p' Li' hA hs (fun b h=>hb b (by rcases List.mem_append.1 h with h | h<;>simp [h])) yx⟩
theorem zAZ.length:∀ {ps:List PV} {vs:List Value} {L:List Nat},zAZ w Φ A ps vs L→vs.length=ps.length
 | [],_,_,h=>by simp [h.1]
 | _::_,_,_,h=>by
  obtain ⟨v,vs',L1,L2,rfl,rfl,h1,h2⟩:=h
  simp [h2.length]
end
def zAs (a:Addr) (k:Nat):Addr:=⟨a.block,a.off+k,none⟩
def kid (w:World):Value→PV→Nat→Nat→Option Value
 | .slice (some a) _ _,.own sz _,i,c=>w.cell? (zAs a (i*sz+c))
 | .pointer (some a),.box _,_,c=>w.cell? (zAs a c)
 | .agg vs,.agg _,_,c=>vs[c]?
 | _,_,_,_=>none
def zAU (w:World):Value→PV→zAS→Option (Value×PV)
 | v,p,[]=>some (v,p)
 | v, p, (i,c)::rest =>
  match zAY p with
  | some xs=>match xs[i]? with
   | some x=>match x.cells[c]? with
    | some q=>match kid w v p i c with
     | some u=>zAU w u q rest
     | none=>none
    | none=>none
   | none=>none
  | none=>none
def zA3:Value→PV→Nat→Nat→Option Addr
 | .slice (some a) _ _,.own sz _,i,c=>some (zAs a (i*sz+c))
 | .pointer (some a),.box _,0,c=>some (zAs a c)
 | _,_,_,_=>none
def zBV (v nv:Value) (sz lo n:Nat):Prop :=
 match nv with
 | .slice none _ _=>v = .slice none 0 0∧n=0
 | .slice (some a) _ cap=>v = .slice (some (zAs a (lo*sz))) n (cap-lo)∧lo+n≤cap
 | _=>False
def zA2 (w:World) (rv:Nat→Value) (E:Nat→PV):Al
 | .addr r pre i c _,v=>r<zAb∧∃ a,v = .pointer (some a)∧a.spot=none∧∀ nv np,zAU w (rv r) (E r).unlock pre=some (nv,np)→∀ a',zA3 nv np i c=some a'→a=a'
 | .bor r pre z lo n,v=>r<zAb∧(∃ a cap,v = .slice a n cap∧n≤cap∧(a=none→cap=0)∧∀ b,a=some b→b.spot=none) ∧
   ∀ nv np,zAU w (rv r) (E r).unlock pre=some (nv,np)→np.heavy0=true→∃ sz xs,np = .own sz xs∧z=sz∧zBV v nv sz lo n
 | .bsl r pre i c _ _ n,v=>r<zAb∧∃ a cap,v = .slice (some a) n cap∧n≤cap∧a.spot=none ∧
   ∀ nv np,zAU w (rv r) (E r).unlock pre=some (nv,np)→∀ a',zA3 nv np i c=some a'→a=a'
 | .bmap r pre,v=>r<zAb∧(∃ b,v = .map (some b))∧∀ nv np,zAU w (rv r) (E r).unlock pre=some (nv,np)→∀ es,np = .omap es→v=nv
 | _,_=>False
def child (p:PV) (i c:Nat):Option PV:=(zAY p).bind fun xs=>(xs[i]?).bind fun x=>x.cells[c]?
theorem zB6 (p:PV) (i c:Nat) (rest:zAS):zAC p ((i,c)::rest)=(child p i c).bind (zAC · rest):=by
 simp only [zAC,child];split
 ·rename_i xs h;rw [h];simp only [Option.bind_some];split
  ·rename_i x h;rw [h];simp only [Option.bind_some];split
   ·rename_i q h;rw [h];rfl
   ·rename_i h;rw [h];rfl
  ·rename_i h;rw [h];rfl
 ·rename_i h;rw [h];rfl
theorem zA1 (w:World) (v:Value) (p:PV) (i c:Nat) (rest:zAS):zAU w v p ((i,c)::rest)=(child p i c).bind fun q=>(kid w v p i c).bind fun u=>zAU w u q rest:=by
 simp only [zAU,child];split
 ·rename_i xs h;rw [h];simp only [Option.bind_some];split
  ·rename_i x h;rw [h];simp only [Option.bind_some];split
   ·rename_i q h;rw [h];simp only [Option.bind_some];split
    ·rename_i h;rw [h];rfl
    ·rename_i h;rw [h];rfl
   ·rename_i h;rw [h];rfl
  ·rename_i h;rw [h];rfl
 ·rename_i h;rw [h];rfl
def zBU (p:PV) (i c:Nat) (q':PV):Option PV:=(zAY p).bind fun xs=>(xs[i]?).bind fun x=>zAy p (xs.set i (zAB x c [q']))
theorem zBp (f:PV→Option PV) (p:PV) (i c:Nat) (rest:zAS):zAv f p ((i,c)::rest)=(child p i c).bind fun q=>(zAv f q rest).bind fun q'=>zBU p i c q':=by
 simp only [zAv,child,zBU];split
 ·rename_i xs h;rw [h];simp only [Option.bind_some];split
  ·rename_i x h;rw [h];simp only [Option.bind_some];split
   ·rename_i q h;rw [h];simp only [Option.bind_some];split
    ·rename_i h;rw [h];rfl
    ·rename_i h;rw [h];rfl
   ·rename_i h;rw [h];rfl
  ·rename_i h;rw [h];rfl
 ·rename_i h;rw [h];rfl
section
variable {w w':World} {Φ Φ':Nat→Prop} {A:Al}
theorem Rep.cell {p:PV} {v:Value} {L:List Nat} (h:Rep w Φ A p v L) {c:Nat} {q:PV} (hq:p.cells[c]? = some q) (hn:zCf v=p.isAgg) :
  ∃ u La Li Lb,v.cells.toList[c]? = some u∧L=La++Li++Lb∧Rep w Φ A q u Li ∧
   (∀ w' Φ' (A':Al) q' Li',(∀ a v,a.isWay=true→A a v→A' a v)→zDo w w' Φ Φ'→(∀ b∈La++Lb,w'.heap[b]? = w.heap[b]?)→q'.isAgg=q.isAgg→Rep w' Φ' A' q' u Li'→Rep w' Φ' A' (zAB p c [q']) v (La++Li'++Lb)∧(zAB p c [q']).cells.length=p.cells.length∧(zAB p c [q']).isAgg=p.isAgg) ∧
   ∀ c2 q2,c2≠c→p.cells[c2]? = some q2→∃ u2 L2,v.cells.toList[c2]? = some u2∧Rep w Φ A q2 u2 L2∧∀ b∈L2,b∈La++Lb:=by
 cases hp:p.isAgg with
 | true =>
  cases p<;>simp [PV.isAgg] at hp
  rename_i cs
  obtain ⟨vs,rfl,h⟩:=h
  obtain ⟨u,La,Li,Lb,hu,rfl,hr,hk,ho⟩:=h.split hq
  have hc:c<cs.length:=(List.getElem?_eq_some_iff.1 hq).1
  refine ⟨u,La,Li,Lb,hu,rfl,hr,fun w' Φ' A' q' Li' hA hs hb _ yx=>?_,fun c2 q2 hH h2=>ho c2 q2 hH h2⟩
  have he:cs.take c++[q']++cs.drop (c+1)=cs.set c q':=by
   rw [List.set_eq_take_append_cons_drop,if_pos hc];simp
  refine ⟨⟨vs,rfl,?_⟩,?_,rfl⟩
  ·show zAZ w' Φ' A' (cs.take c++[q']++cs.drop (c+1)) _ _
   rw [he];exact hk w' Φ' A' q' Li' hA hs hb yx
  ·show (cs.take c++[q']++cs.drop (c+1)).length=cs.length
   rw [he];simp
 | false =>
  have j2:p.cells=[p]:=by cases p<;>first | rfl | simp [PV.isAgg] at hp
  have hv:v.cells=#[v]:=by rw [hp] at hn;cases v<;>first | rfl | simp [zCf] at hn
  rw [j2] at hq
  have hc:c=0:=by
   have:=(List.getElem?_eq_some_iff.1 hq).1;simp at this;exact this
  subst hc;simp at hq;subst hq
  refine ⟨v,[],L,[],by simp [hv],by simp,h,fun w' Φ' A' q' Li' hA hs hb j4 yx=>?_,fun c2 q2 hH h2=>?_⟩
  rotate_left
  ·rw [j2] at h2
   have:=(List.getElem?_eq_some_iff.1 h2).1;simp at this;omega
  replace j4:q'.isAgg=false:=j4.trans hp
  have he:zAB p 0 [q']=q':=by cases p<;>first | rfl | simp [PV.isAgg] at hp
  rw [he]
  refine ⟨by simpa using yx,?_,j4⟩
  rw [j2];cases q'<;>first | rfl | simp [PV.isAgg] at j4
end
theorem zEp {α β:Type} {f:α→β}:∀ {xs:List α} {i:Nat} {x y:α},xs[i]? = some x→f y=f x→(xs.set i y).map f=xs.map f
 | [],_,_,_,h,_=>by simp at h
 | z::xs,0,x,y,h,e=>by simp at h;subst h;simp [e]
 | z::xs,i+1,x,y,h,e=>by
  have:=zEp (xs:=xs) (i:=i) (by simpa using h) e
  simpa using this
theorem zDT {sz:Nat}:∀ {us:List Value},(∀ u∈us,u.cells.size=sz)→∀ {i c:Nat} {x u:Value},us[i]? = some x→x.cells.toList[c]? = some u→(flat us)[i*sz+c]? = some u
 | [],_,_,_,_,_,h,_=>by simp at h
 | y::us,hs,0,c,x,u,h,hc=>by
  simp at h;subst h
  have:c<y.cells.toList.length:=(List.getElem?_eq_some_iff.1 hc).1
  simp only [flat,List.flatMap_cons,Nat.zero_mul,Nat.zero_add]
  rw [List.getElem?_append_left this];exact hc
 | y::us,hs,i+1,c,x,u,h,hc=>by
  have ih:=zDT (us:=us) (fun u hu=>hs u (by simp [hu])) (i:=i) (by simpa using h) hc
  have hy:y.cells.toList.length=sz:=by simpa using hs y (by simp)
  simp only [flat,List.flatMap_cons]
  rw [List.getElem?_append_right (by rw [hy,Nat.succ_mul];omega),hy]
  rw [show (i+1)*sz+c-sz=i*sz+c by rw [Nat.succ_mul];omega]
  exact ih
theorem zDv {c:Array Value} {o n k:Nat} {u:Value} (h:(seg c o n)[k]? = some u):c[o+k]? = some u:=by
 simp only [seg,List.getElem?_take,List.getElem?_drop] at h
 split at h
 ·simpa using h
 ·cases h
theorem zDn {w:World} {b:Nat} {c:Array Value} (h:zIO w b c) (k:Nat):w.cell? ⟨b,k,none⟩=c[k]?:=by
 obtain ⟨e,fz,h⟩:=h
 simp [World.cell?,h]
theorem zFf.any {w:World} {b:Nat} {c:Array Value} (h:zFf w b c):zIO w b c:=by
 obtain ⟨e,h⟩:=h;exact ⟨e,_,h⟩
def zGF (A:Al):PV→Al
 | .own .. => zCn
 | _=>A
theorem zJ3 {A A':Al} {p:PV} (hA:∀ a v,a.isWay=true→A a v→A' a v):∀ a v,a.isWay=true→zGF A p a v→zGF A' p a v:=by
 intro a v hw h
 cases p<;>first | exact hA a v hw h | exact h.elim
section
variable {w w':World} {Φ Φ':Nat→Prop} {A:Al}
theorem Rep.child {p:PV} {v:Value} {L:List Nat} (h:Rep w Φ A p v L) {i c:Nat} {q:PV} (hq:child p i c=some q) :
  ∃ u La Li Lb,kid w v p i c=some u∧L=La++Li++Lb∧Rep w Φ (zGF A p) q u Li ∧
   (∀ w' Φ' (A':Al) q' Li' p',(∀ a v,a.isWay=true→A a v→A' a v)→zDo w w' Φ Φ'→(∀ b∈La++Lb,w'.heap[b]? = w.heap[b]?)→q'.isAgg=q.isAgg→Rep w' Φ' (zGF A' p) q' u Li'→zBU p i c q'=some p'→Rep w' Φ' A' p' v (La++Li'++Lb)) ∧
   (∀ w',(∀ b∈La++Lb,w'.heap[b]? = w.heap[b]?)→∀ q' p',zBU p i c q'=some p'→∀ i2 c2,kid w' v p' i2 c2=kid w v p i2 c2) ∧
   ∀ i2 c2 q2,(i2,c2)≠(i,c)→Eng.child p i2 c2=some q2→∃ u2 L2,kid w v p i2 c2=some u2∧Rep w Φ (zGF A p) q2 u2 L2∧∀ b∈L2,b∈La++Lb:=by
 cases p<;>simp only [Eng.child,zAY,Option.bind_none,Option.bind_some] at hq<;>try cases hq
 case agg cs =>
  obtain ⟨vs,rfl,h⟩:=h
  have hi:i=0:=by
   cases i with
   | zero=>rfl
   | succ i=>simp at hq
  subst hi;simp [PV.cells] at hq
  obtain ⟨u,La,Li,Lb,hu,rfl,hr,hk,ho⟩:=h.split (i:=c) (p:=q) (by simpa using hq)
  refine ⟨u,La,Li,Lb,by simpa [kid] using hu,rfl,hr,fun w' Φ' A' q' Li' p' hA hs hb _ yx hp=>?_,?_,?_⟩
  rotate_left
  ·intro w' hb q' p' hp i2 c2
   simp only [zBU,zAY,zAy,zAB,Option.bind_some,List.getElem?_cons_zero,List.set_cons_zero] at hp
   cases hp;rfl
  ·intro i2 c2 q2 hH h2
   have uG:i2=0:=by
    cases i2 with
    | zero=>rfl
    | succ i=>simp [Eng.child,zAY] at h2
   subst uG
   simp [Eng.child,zAY,PV.cells] at h2
   obtain ⟨u2,L2,h3,h4,h5⟩:=ho c2 q2 (fun e=>hH (by rw [e])) h2
   exact ⟨u2,L2,by simpa [kid] using h3,h4,h5⟩
  have hc:c<cs.length:=(List.getElem?_eq_some_iff.1 hq).1
  have he:cs.take c++[q']++cs.drop (c+1)=cs.set c q':=by
   rw [List.set_eq_take_append_cons_drop,if_pos hc];simp
  simp only [zBU,zAY,zAy,zAB,Option.bind_some,List.getElem?_cons_zero,List.set_cons_zero,List.length_singleton,he] at hp
  cases hp
  exact ⟨vs,rfl,hk w' Φ' A' q' Li' hA hs hb yx⟩
 case box q0 =>
  obtain ⟨a,r,u0,L',rfl,h1,h2,h4,h5,⟨h6,u9⟩,h7⟩:=h
  have hi:i=0:=by
   cases i with
   | zero=>rfl
   | succ i=>simp at hq
  subst hi;simp at hq
  obtain ⟨u,La,Li,Lb,hu,rfl,hr,hk,ho⟩:=h7.cell hq u9
  have jq:∀ c2 u2,u0.cells.toList[c2]? = some u2→kid w v (.box q0) 0 c2=some u2:=by
   intro c2 u2 h
   subst h1
   have:=zDv (c:=r) (o:=a.off) (n:=q0.cells.length) (k:=c2) (u:=u2) (by rw [h5];exact h)
   simp only [kid,zAs]
   rw [zDn h4.any];exact this
  refine ⟨u,a.block::La,Li,Lb,?_,by simp,hr,fun w' Φ' A' q' Li' p' hA hs hb j4 yx hp=>?_,?_,?_⟩
  rotate_left 2
  ·intro w' hb q' p' hp i2 c2
   simp only [zBU,zAY,zAy,Option.bind_some,List.getElem?_cons_zero,List.set_cons_zero] at hp
   cases hp;subst h1
   simp only [kid,World.cell?,zAs]
   rw [hb a.block (by simp)]
  ·intro i2 c2 q2 hH h2
   have uG:i2=0:=by
    cases i2 with
    | zero=>rfl
    | succ i=>simp [Eng.child,zAY] at h2
   subst uG
   simp [Eng.child,zAY] at h2
   obtain ⟨u2,L2,h3,qi,LG⟩:=ho c2 q2 (fun e=>hH (by rw [e])) h2
   exact ⟨u2,L2,jq c2 u2 h3,qi,fun b hb=>by have:=LG b hb;simp at this ⊢;rcases this with h | h<;>simp [h]⟩
  ·subst h1
   have:c<q0.cells.length:=(List.getElem?_eq_some_iff.1 hq).1
   have:=zDv (c:=r) (o:=a.off) (n:=q0.cells.length) (k:=c) (u:=u) (by rw [h5];exact hu)
   simp only [kid,zAs]
   rw [zDn h4.any];exact this
  ·obtain ⟨hx,hl,hg⟩:=hk w' Φ' A' q' Li' hA hs (fun b h=>hb b (by simp at h ⊢;rcases h with h | h<;>simp [h])) j4 yx
   simp only [zBU,zAY,zAy,Option.bind_some,List.getElem?_cons_zero,List.set_cons_zero] at hp
   cases hp
   obtain ⟨e,h4⟩:=h4
   refine ⟨a,r,u0,La++Li'++Lb,by simp,h1,h2,⟨e,?_⟩,by rw [hl];exact h5,⟨by rw [hl];exact h6,by rw [hg];exact u9⟩,hx⟩
   rw [hb a.block (by simp)];exact h4
 case own sz xs =>
  obtain ⟨h1,h2,h3⟩ | ⟨a,n,r,us,L',rfl,h1,h2,h3,h4,h5,h6,⟨h7,uA⟩,h8,h9⟩:=h
  ·subst h1;simp at hq
  ·cases hx:xs[i]? with
   | none=>rw [hx] at hq;simp at hq
   | some x =>
    rw [hx] at hq;simp at hq
    obtain ⟨ux,La,Li,Lb,hu,rfl,hr,hk,ho⟩:=h9.split hx
    have hg:zCf ux=x.isAgg:=by
     have h1:(us.map zCf)[i]? = some (zCf ux):=by simp [hu]
     have h2:(xs.map PV.isAgg)[i]? = some x.isAgg:=by simp [hx]
     rw [uA] at h1;rw [h1] at h2;simpa using h2
    obtain ⟨u,La',Li',Lb',hu',rfl,yx,wH,ho'⟩:=hr.cell hq hg
    have jq:∀ i2 c2 x2 u2,us[i2]? = some x2→x2.cells.toList[c2]? = some u2→kid w v (.own sz xs) i2 c2=some u2:=by
     intro i2 c2 x2 u2 jY wU
     subst h1
     have hf:=zDT h7 jY wU
     rw [← h8] at hf
     have:=zDv hf
     simp only [kid,zAs]
     rw [zDn h4.any];exact this
    refine ⟨u,a.block::(La++La'),Li',Lb'++Lb,?_,by simp,yx,fun w' Φ' A' q' Lj p' hA hs hb j4 hrq hp=>?_,?_,?_⟩
    rotate_left 2
    ·intro w' hb q' p' hp i2 c2
     simp only [zBU,zAY,zAy,Option.bind_some,hx] at hp
     cases hp;subst h1
     simp only [kid,World.cell?,zAs]
     rw [hb a.block (by simp)]
    ·intro i2 c2 q2 hH h2
     simp only [Eng.child,zAY,Option.bind_some] at h2
     cases jY:xs[i2]? with
     | none=>rw [jY] at h2;cases h2
     | some x2 =>
      rw [jY] at h2;simp only [Option.bind_some] at h2
      by_cases kU:i2=i
      ·subst kU
       rw [hx] at jY;cases jY
       obtain ⟨u2,L2,h3,qi,LG⟩:=ho' c2 q2 (fun e=>hH (by rw [e])) h2
       exact ⟨u2,L2,jq _ _ _ _ hu h3,qi,fun b hb=>by have:=LG b hb;simp at this ⊢;rcases this with h | h<;>simp [h]⟩
      ·obtain ⟨ux2,L2,h3,qi,LG⟩:=ho i2 x2 kU jY
       have qj:zCf ux2=x2.isAgg:=by
        have h1:(us.map zCf)[i2]? = some (zCf ux2):=by simp [h3]
        have h2:(xs.map PV.isAgg)[i2]? = some x2.isAgg:=by simp [jY]
        rw [uA] at h1;rw [h1] at h2;simpa using h2
       obtain ⟨u2,Ma,Mi,Mb,u9,rfl,h7'',_⟩:=qi.cell h2 qj
       exact ⟨u2,Mi,jq _ _ _ _ h3 u9,h7'',fun b hb=>by have:=LG b (by simp [hb]);simp at this ⊢;rcases this with h | h<;>simp [h]⟩
    ·subst h1
     have hf:=zDT h7 hu hu'
     rw [← h8] at hf
     have:=zDv hf
     simp only [kid,zAs]
     rw [zDn h4.any];exact this
    ·obtain ⟨uH,hl,hg'⟩:=wH w' Φ' zCn q' Lj (fun _ _ _ h=>h) hs (fun b h=>hb b (by simp at h ⊢;rcases h with h | h<;>simp [h])) j4 hrq
     have hk:=hk w' Φ' zCn _ _ (fun _ _ _ h=>h) hs (fun b h=>hb b (by simp at h ⊢;rcases h with h | h<;>simp [h])) uH
     simp only [zBU,zAY,zAy,Option.bind_some,hx] at hp
     cases hp
     obtain ⟨e,h4⟩:=h4
     refine .inr ⟨a,n,r,us,La++(La'++Lj++Lb')++Lb,by simp,by simpa using h1,h2,by simpa using h3,⟨e,?_⟩,h5,?_,⟨h7,?_⟩,by simpa using h8,hk⟩
     ·rw [hb a.block (by simp)];exact h4
     ·intro y hy
      rcases List.mem_or_eq_of_mem_set hy with hy | hy
      ·exact h6 y hy
      ·rw [hy,hl];exact h6 x (List.mem_of_getElem? hx)
     ·rw [uA,zEp hx hg']
end
def zIk:Al→PV→zAS→Al
 | A,_,[]=>A
 | A,p,(i,c)::rest=>match child p i c with
  | some q=>zIk (zGF A p) q rest
  | none=>zCn
theorem zDX {p:PV} {i c:Nat} {q' p':PV} (h:zBU p i c q'=some p'):p'.isAgg=p.isAgg:=by
 simp only [zBU] at h
 cases p<;>simp only [zAY,Option.bind_none,Option.bind_some] at h<;>try cases h
 case own sz xs =>
  cases hx:xs[i]?<;>rw [hx] at h<;>simp [zAy] at h
  subst h;rfl
 case box q =>
  cases i with
  | zero=>simp [zAy] at h;subst h;rfl
  | succ i=>simp at h
 case agg cs =>
  cases i with
  | zero=>simp [zAy,zAB] at h;subst h;rfl
  | succ i=>simp at h
def zCd:PV→PV→Prop
 | .own sz _,.own sz' _=>sz=sz'
 | .box _,.box _=>True
 | .omap _,.omap _=>True
 | _,_=>False
theorem zCd.refl {p:PV} (h:p.heavy0=true):zCd p p:=by
 cases p<;>simp_all [PV.heavy0,zCd]
theorem zLZ {x q q':PV} {c:Nat} (hq:x.cells[c]? = some q) (hg:q'.isAgg=q.isAgg):(zAB x c [q']).cells=x.cells.set c q':=by
 cases hx:x.isAgg with
 | true =>
  cases x<;>simp [PV.isAgg] at hx
  rename_i cs
  have hc:c<cs.length:=(List.getElem?_eq_some_iff.1 hq).1
  show cs.take c++[q']++cs.drop (c+1)=cs.set c q'
  rw [List.set_eq_take_append_cons_drop,if_pos hc];simp
 | false =>
  have j2:x.cells=[x]:=by cases x<;>first | rfl | simp [PV.isAgg] at hx
  rw [j2] at hq ⊢
  have hc:c=0:=by have:=(List.getElem?_eq_some_iff.1 hq).1;simp at this;exact this
  subst hc;simp at hq;subst hq
  have he:zAB x 0 [q']=q':=by cases x<;>first | rfl | simp [PV.isAgg] at hx
  rw [he]
  rw [hx] at hg
  cases q'<;>first | rfl | simp [PV.isAgg] at hg
theorem zPJ {p q q' p':PV} {i c:Nat} (hc:Eng.child p i c=some q) (hg:q'.isAgg=q.isAgg) (hp:zBU p i c q'=some p') :
  Eng.child p' i c=some q'∧∀ i2 c2,(i2,c2)≠(i,c)→Eng.child p' i2 c2=Eng.child p i2 c2:=by
 simp only [Eng.child] at hc
 simp only [zBU] at hp
 cases hh:zAY p with
 | none=>rw [hh] at hc;cases hc
 | some xs =>
  rw [hh] at hc hp;simp only [Option.bind_some] at hc hp
  cases hx:xs[i]? with
  | none=>rw [hx] at hc;cases hc
  | some x =>
   rw [hx] at hc hp;simp only [Option.bind_some] at hc hp
   have yU:=zLZ hc hg
   have hi:i<xs.length:=(List.getElem?_eq_some_iff.1 hx).1
   have yP:c<x.cells.length:=(List.getElem?_eq_some_iff.1 hc).1
   have qk:zAY p'=some (xs.set i (zAB x c [q'])):=by
    cases p<;>simp only [zAY] at hh<;>try cases hh
    case agg cs =>
     have jr:i=0:=by simpa using hi
     subst jr
     simp only [List.getElem?_cons_zero,Option.some.injEq] at hx;subst hx
     simp only [zAB,List.set_cons_zero,zAy,Option.some.injEq] at hp ⊢
     subst hp;rfl
    case own sz =>
     simp only [zAy,Option.some.injEq] at hp
     subst hp;rfl
    case box q0 =>
     have jr:i=0:=by simpa using hi
     subst jr
     simp only [List.set_cons_zero,zAy,Option.some.injEq] at hp ⊢
     subst hp;rfl
   refine ⟨?_,fun i2 c2 hH=>?_⟩
   ·simp only [Eng.child,qk,Option.bind_some,List.getElem?_set_self hi,yU,List.getElem?_set_self yP]
   ·simp only [Eng.child,qk,hh,Option.bind_some]
    by_cases kU:i2=i
    ·subst kU
     rw [List.getElem?_set_self hi,hx];simp only [Option.bind_some,yU]
     rw [List.getElem?_set_ne (by intro e;exact hH (by rw [e]))]
    ·rw [List.getElem?_set_ne (by omega)]
section
variable {w w':World} {Φ Φ':Nat→Prop}
theorem zE1 {A:Al}:∀ {pre:zAS} {p:PV} {v:Value} {L:List Nat},Rep w Φ A p v L→(∀ b∈L,w'.heap[b]? = w.heap[b]?)→zAU w' v p pre=zAU w v p pre
 | [],_,_,_,_,_=>rfl
 | (i, c)::rest,p,v,L,h,hb=>by
  rw [zA1,zA1]
  cases hc:Eng.child p i c with
  | none=>rfl
  | some q =>
   simp only [Option.bind_some]
   obtain ⟨u,La,Li,Lb,hk,rfl,hr,_⟩:=h.child hc
   have wH:kid w' v p i c=kid w v p i c:=by
    cases p<;>first | (simp [Eng.child,zAY] at hc;done) | skip
    ·obtain ⟨vs,rfl,_⟩:=h;rfl
    ·obtain ⟨h1,h2,h3⟩ | ⟨a,n,r,us,L',h0,h1,h2,_⟩:=h
     ·subst h1;simp [Eng.child,zAY] at hc
     ·subst h1;simp only [kid]
      exact World.cell?_of_block (w:=w) (hb _ (by rw [h0];simp [zAs]))
    ·obtain ⟨a,r,u0,L',h0,h1,_⟩:=h
     subst h1;simp only [kid]
     exact World.cell?_of_block (w:=w) (hb _ (by rw [h0];simp [zAs]))
   rw [wH,hk];simp only [Option.bind_some]
   exact zE1 hr fun b h=>hb b (by simp [h])
theorem zLe {p p' q':PV} {i c:Nat} (hp:zBU p i c q'=some p') (hh:p'.heavy0=true):zCd p p':=by
 simp only [zBU] at hp
 cases p<;>simp only [zAY,Option.bind_none,Option.bind_some] at hp<;>try cases hp
 case own sz xs =>
  cases hx:xs[i]?<;>rw [hx] at hp<;>simp [zAy] at hp
  subst hp;rfl
 case box q =>
  cases i with
  | zero=>simp [zAy] at hp;subst hp;trivial
  | succ i=>simp at hp
 case agg cs =>
  cases i with
  | zero=>simp [zAy,zAB] at hp;subst hp;cases hh
  | succ i=>simp at hp
theorem Rep.zip : ∀ (pre:zAS) {A:Al} {p:PV} {v:Value} {L:List Nat} {q:PV},Rep w Φ A p v L→zAC p pre=some q →
  ∃ nv La Li Lb,zAU w v p pre=some (nv,q)∧L=La++Li++Lb∧Rep w Φ (zIk A p pre) q nv Li ∧
   (∀ w' Φ' (A':Al) q' Li' p',(∀ a v,a.isWay=true→A a v→A' a v)→zDo w w' Φ Φ'→(∀ b∈La++Lb,w'.heap[b]? = w.heap[b]?)→(pre≠[]→q'.isAgg=q.isAgg)→Rep w' Φ' (zIk A' p pre) q' nv Li' →
    zAv (fun _=>some q') p pre=some p'→Rep w' Φ' A' p' v (La++Li'++Lb)) ∧
   ∀ w' q' p',(∀ b∈La++Lb,w'.heap[b]? = w.heap[b]?)→(pre≠[]→q'.isAgg=q.isAgg)→zAv (fun _=>some q') p pre=some p' →
    ∀ pth nv2 np2,zAU w' v p' pth=some (nv2,np2)→np2.heavy0=true →
     (∃ rest,pth=pre++rest∧zAU w' nv q' rest=some (nv2,np2))∨∃ np0,zAU w v p pth=some (nv2,np0)∧zCd np0 np2
 | [],A,p,v,L,q,h,hq=>by
  simp only [zAC] at hq;cases hq
  refine ⟨v,[],L,[],rfl,by simp,h,fun w' Φ' A' q' Li' p' hA hs hb _ hr hp=>?_,fun w' q' p' hb _ hp pth nv2 np2 hf hh=>?_⟩
  ·simp only [zAv] at hp;cases hp
   simpa [zIk] using hr
  ·simp only [zAv] at hp;cases hp
   exact .inl ⟨pth,rfl,hf⟩
 | (i, c) :: rest,A,p,v,L,q,h,hq=>by
  rw [zB6] at hq
  cases hc:Eng.child p i c with
  | none=>rw [hc] at hq;cases hq
  | some q1 =>
   rw [hc] at hq;simp only [Option.bind_some] at hq
   obtain ⟨u,La,Li,Lb,hu,rfl,hr,hk,jq,vC⟩:=h.child hc
   obtain ⟨nv,Ma,Mi,Mb,hf,rfl,LF,ua,uI⟩:=Rep.zip rest hr hq
   have yt:∀ q' q1',zAv (fun _=>some q') q1 rest=some q1'→q'.isAgg=q.isAgg→q1'.isAgg=q1.isAgg:=by
    intro q' q1' hm j4
    cases rest with
    | nil =>
     simp only [zAv] at hm;cases hm
     simp only [zAC] at hq;cases hq
     exact j4
    | cons x rest =>
     obtain ⟨i2,c2⟩:=x
     rw [zBp] at hm
     cases jJ:Eng.child q1 i2 c2 with
     | none=>rw [jJ] at hm;cases hm
     | some q2 =>
      rw [jJ] at hm;simp only [Option.bind_some] at hm
      cases vU:zAv (fun _=>some q') q2 rest with
      | none=>rw [vU] at hm;cases hm
      | some q2'=>rw [vU] at hm;exact zDX (by simpa using hm)
   refine ⟨nv,La++Ma,Mi,Mb++Lb,?_,by simp,?_,fun w' Φ' A' q' Li' p' hA hs hb j4 yx hp=>?_,fun w' q' p' hb j4 hp pth nv2 np2 jk hh=>?_⟩
   rotate_left 3
   ·rw [zBp,hc] at hp;simp only [Option.bind_some] at hp
    cases hm:zAv (fun _=>some q') q1 rest with
    | none=>rw [hm] at hp;cases hp
    | some q1' =>
     rw [hm] at hp;simp only [Option.bind_some] at hp
     have yX:∀ b∈La++Lb,w'.heap[b]? = w.heap[b]?:=fun b h=>hb b (by simp at h ⊢;rcases h with h | h<;>simp [h])
     have jS:∀ b∈Ma++Mb,w'.heap[b]? = w.heap[b]?:=fun b h=>hb b (by simp at h ⊢;rcases h with h | h<;>simp [h])
     have hg:q1'.isAgg=q1.isAgg:=yt q' q1' hm (j4 (by simp))
     obtain ⟨yi,hoc⟩:=zPJ hc hg hp
     cases pth with
     | nil =>
      simp only [zAU,Option.some.injEq,Prod.mk.injEq] at jk
      obtain ⟨rfl,rfl⟩:=jk
      exact .inr ⟨p,rfl,zLe hp hh⟩
     | cons x pth =>
      obtain ⟨i2,c2⟩:=x
      rw [zA1] at jk
      by_cases yy:(i2,c2)=(i,c)
      ·cases yy
       rw [yi] at jk;simp only [Option.bind_some] at jk
       rw [jq w' yX q1' p' hp,hu] at jk;simp only [Option.bind_some] at jk
       rcases uI w' q' q1' jS (fun _=>j4 (by simp)) hm pth nv2 np2 jk hh with ⟨rst,rfl,h3⟩ | ⟨np0,h3,h4⟩
       ·exact .inl ⟨rst,rfl,h3⟩
       ·refine .inr ⟨np0,?_,h4⟩
        rw [zA1,hc];simp only [Option.bind_some];rw [hu];exact h3
      ·rw [hoc i2 c2 yy] at jk
       cases jJ:Eng.child p i2 c2 with
       | none=>rw [jJ] at jk;cases jk
       | some q2 =>
        rw [jJ] at jk;simp only [Option.bind_some] at jk
        obtain ⟨u2,L2,h3,h4,h5⟩:=vC i2 c2 q2 yy jJ
        rw [jq w' yX q1' p' hp,h3] at jk;simp only [Option.bind_some] at jk
        rw [zE1 h4 fun b yF=>yX b (h5 b yF)] at jk
        refine .inr ⟨np2,?_,zCd.refl hh⟩
        rw [zA1,jJ];simp only [Option.bind_some];rw [h3];exact jk
   ·rw [zA1,hc];simp only [Option.bind_some];rw [hu];simpa using hf
   ·simpa only [zIk,hc] using LF
   ·rw [zBp,hc] at hp;simp only [Option.bind_some] at hp
    cases hm:zAv (fun _=>some q') q1 rest with
    | none=>rw [hm] at hp;cases hp
    | some q1' =>
     rw [hm] at hp;simp only [Option.bind_some] at hp
     simp only [zIk,hc] at yx
     have h2:=ua w' Φ' (zGF A' p) q' Li' q1' (zJ3 hA) hs (fun b h=>hb b (by simp at h ⊢;rcases h with h | h<;>simp [h])) (fun _=>j4 (by simp)) yx hm
     have hg:q1'.isAgg=q1.isAgg:=yt q' q1' hm (j4 (by simp))
     have:=hk w' Φ' A' q1' _ p' hA hs (fun b h=>hb b (by simp at h ⊢;rcases h with h | h<;>simp [h])) hg h2 hp
     simpa using this
end
section
variable {w:World} {Φ:Nat→Prop} {rv:Nat→Value} {E:Nat→PV}
theorem zMF {r:Nat} {pre:zAS} {p:PV} {v:Value} {L:List Nat} (hr:r<zAb) (hf:zAU w (rv r) (E r).unlock pre=some (v,p))
  (h:Rep w Φ (zA2 w rv E) p v L):Rep w Φ (zA2 w rv E) (zGA r pre p) v []:=by
 cases p with
 | own sz xs =>
  refine ⟨rfl,hr,?_,?_⟩
  ·obtain ⟨h1,h2,h3⟩ | ⟨a,n,c,us,L',h0,h1,h2,h3,h4⟩:=h
   ·subst h1;exact ⟨none,0,h3,by simp,by simp,by simp⟩
   ·exact ⟨some a,n,h1,h3,by simp,fun b hb=>by cases hb;exact h2⟩
  ·intro nv np hn _
   rw [hf] at hn;cases hn
   refine ⟨sz,xs,rfl,rfl,?_⟩
   obtain ⟨h1,h2,h3⟩ | ⟨a,n,c,us,L',h0,h1,h2,h3,h4⟩:=h
   ·subst h1;subst h3;exact ⟨rfl,rfl⟩
   ·subst h1
    have:zAs a (0*sz)=a:=by cases a;simp_all [zAs]
    exact ⟨by rw [this];rfl,by simpa using h3⟩
 | box q =>
  obtain ⟨a,c,u,L',h0,h1,h2,h4⟩:=h
  refine ⟨rfl,hr,a,h1,h2,?_⟩
  intro nv np hn a' ha
  rw [hf] at hn;cases hn;subst h1
  have:zAs a 0=a:=by cases a;simp_all [zAs]
  simp only [zA3,this] at ha;cases ha;rfl
 | omap es =>
  obtain ⟨b,ents,h0,h1,h4⟩:=h
  refine ⟨rfl,hr,⟨b,h1⟩,?_⟩
  intro nv np hn es' he
  rw [hf] at hn;cases hn;rfl
 | agg cs=>rfl
 | tup cs=>rfl
 | lock q=>rfl
 | _=>simp_all [zGA,Rep]
end
end Go.Eng
namespace Go.Eng
open Go
theorem zDF {p q:PV} (h:zCd p q):p.heavy0=true:=by cases p<;>cases q<;>first | rfl | cases h
def zA4:PV→Nat×zAS
 | .addr r pre .. => (r,pre)
 | .bor r pre .. => (r,pre)
 | .bsl r pre .. => (r,pre)
 | .bmap r pre=>(r,pre)
 | _=>(0,[])
theorem zEn {nv:Value} {p q:PV} {i c:Nat} (h:zCd p q):zA3 nv p i c=zA3 nv q i c:=by
 cases p<;>cases q<;>simp only [zCd] at h
 ·subst h;cases nv with
  | slice a _ _=>cases a<;>rfl
  | pointer a=>cases a<;>rfl
  | _=>rfl
 ·cases nv with
  | pointer a=>cases a<;>cases i<;>rfl
  | slice a _ _=>cases a<;>rfl
  | _=>rfl
 ·cases nv with
  | pointer a=>cases a<;>cases i<;>rfl
  | slice a _ _=>cases a<;>rfl
  | _=>rfl
section
variable {w w':World} {Φ Φ':Nat→Prop} {rv rv':Nat→Value} {E E':Nat→PV}
theorem zA2.mono {a:PV} {v:Value} (h:zA2 w rv E a v)
  (hf:∀ nv np,zAU w' (rv' (zA4 a).1) (E' (zA4 a).1).unlock (zA4 a).2=some (nv,np)→np.heavy0=true →
   ∃ np0,zAU w (rv (zA4 a).1) (E (zA4 a).1).unlock (zA4 a).2=some (nv,np0)∧zCd np0 np):zA2 w' rv' E' a v:=by
 have key:∀ nv np i c a',zA3 nv np i c=some a'→np.heavy0=true:=by
  intro nv np i c a' h
  cases np<;>first | rfl | (simp [zA3] at h)
 have key2:∀ nv np np0 i c a',zA3 nv np i c=some a'→zCd np0 np→zA3 nv np0 i c=some a':=by
  intro nv np np0 i c a' h hl;rw [zEn hl];exact h
 cases a<;>simp only [zA2] at h ⊢
 case addr r pre i c sh =>
  obtain ⟨hr,a,h1,h2,h3⟩:=h
  refine ⟨hr,a,h1,h2,fun nv np hn a' ha=>?_⟩
  obtain ⟨np0,kJ,hl⟩:=hf nv np hn (key _ _ _ _ _ ha)
  exact h3 nv np0 kJ a' (key2 _ _ _ _ _ _ ha hl)
 case bor r pre z lo n =>
  obtain ⟨hr,h1,h3⟩:=h
  refine ⟨hr,h1,fun nv np hn hh=>?_⟩
  obtain ⟨np0,kJ,hl⟩:=hf nv _ hn hh
  obtain ⟨sz,xs,he,hz,jK⟩:=h3 nv np0 kJ (zDF hl)
  subst he
  cases np<;>simp only [zCd] at hl
  subst hl
  exact ⟨_,_,rfl,hz,jK⟩
 case bsl r pre i c sz ag n =>
  obtain ⟨hr,a,cap,h1,h2,jF,h3⟩:=h
  refine ⟨hr,a,cap,h1,h2,jF,fun nv np hn a' ha=>?_⟩
  obtain ⟨np0,kJ,hl⟩:=hf nv np hn (key _ _ _ _ _ ha)
  exact h3 nv np0 kJ a' (key2 _ _ _ _ _ _ ha hl)
 case bmap r pre =>
  obtain ⟨hr,h1,h3⟩:=h
  refine ⟨hr,h1,fun nv np hn es he=>?_⟩
  subst he
  obtain ⟨np0,kJ,hl⟩:=hf nv _ hn rfl
  cases np0<;>simp only [zCd] at hl
  exact h3 nv _ kJ _ rfl
theorem zEs:∀ {ps:List PV} {i:Nat} {p:PV},zC3 ps=false→ps[i]? = some p→p.heavy=false
 | [],_,_,_,h=>by simp at h
 | q::ps,0,p,hh,h=>by
  simp at h;subst h
  simp only [zC3,Bool.or_eq_false_iff] at hh;exact hh.1
 | q::ps,i+1,p,hh,h=>by
  simp only [zC3,Bool.or_eq_false_iff] at hh
  exact zEs hh.2 (by simpa using h)
theorem zEu:∀ {pre:zAS} {p:PV} {v nv:Value} {np:PV},p.heavy=false→zAU w v p pre=some (nv,np)→np.heavy=false
 | [],p,v,nv,np,hp,h=>by simp only [zAU] at h;cases h;exact hp
 | (i, c)::rest,p,v,nv,np,hp,h=>by
  rw [zA1] at h
  cases hc:Eng.child p i c with
  | none=>rw [hc] at h;cases h
  | some q =>
   rw [hc] at h;simp only [Option.bind_some] at h
   cases hk:kid w v p i c with
   | none=>rw [hk] at h;cases h
   | some u =>
    rw [hk] at h;simp only [Option.bind_some] at h
    refine zEu ?_ h
    cases p<;>first | (simp [Eng.child,zAY] at hc;done) | (simp [PV.heavy] at hp;done) | skip
    rename_i cs
    cases i with
    | zero=>simp [Eng.child,zAY,PV.cells] at hc;exact zEs hp hc
    | succ i=>simp [Eng.child,zAY] at hc
theorem zFG {p:PV} (h:p.heavy0=true):p.heavy=true:=by
 cases p<;>simp_all [PV.heavy0,PV.heavy]
structure Conf (w0:World) (U Φ0:Nat→Prop) (w:World) (Φ:Nat→Prop) (rv:Nat→Value) (E:Nat→PV) (L:Nat→List Nat):Prop where
 rep:∀ s,Rep w Φ (zA2 w rv E) (E s) (rv s) (L s)
 nodup:∀ s,(L s).Nodup
 disj:∀ s s',s≠s'→∀ b∈L s,b∉L s'
 own:∀ s,∀ b∈L s,b<w.heap.size∧¬ Φ b∧(U b∨w0.heap.size≤b)
 frz:∀ b,Φ b→b<w.heap.size∧(Φ0 b∨U b∨w0.heap.size≤b)
 frz0:∀ b,Φ0 b→Φ b
 size:w0.heap.size≤w.heap.size
 kept:∀ b,b<w0.heap.size→¬ U b→w.heap[b]? = w0.heap[b]?
 os:w.os=w0.os
 tape:w.tape=w0.tape
 output:w.output=w0.output
def upd {α:Type} (f:Nat→α) (s:Nat) (x:α):Nat→α:=fun t=>if t=s then x else f t
theorem zAh {α:Type} {f:Nat→α} {s:Nat} {x:α}:upd f s x s=x:=if_pos rfl
theorem zAf {α:Type} {f:Nat→α} {s t:Nat} {x:α} (h:t≠s):upd f s x t=f t:=if_neg h
theorem zBZ {A:Al} {p:PV} {v:Value} {L:List Nat} (h:Rep w Φ A p v L):Rep w Φ A p.unlock v L:=by cases p<;>exact h
theorem zDa:∀ (a b:zAS) (v:Value) (p:PV),zAU w v p (a++b)=(zAU w v p a).bind fun x=>zAU w x.1 x.2 b
 | [],b,v,p=>rfl
 | (i,c)::a,b,v,p=>by
  rw [List.cons_append,zA1,zA1]
  cases Eng.child p i c with
  | none=>rfl
  | some q =>
   simp only [Option.bind_some]
   cases kid w v p i c with
   | none=>rfl
   | some u=>simp only [Option.bind_some];exact zDa a b u q
theorem zKf {v:Value} {p:PV} {i c:Nat}:zAU w v p [(i,c)]=(Eng.child p i c).bind fun q=>(kid w v p i c).bind fun u=>some (u,q):=by
 rw [zA1];rfl
theorem zAZ.part {A:Al}:∀ {ps:List PV} {us:List Value} {L:List Nat},zAZ w Φ A ps us L→∀ c n,∃ L',zAZ w Φ A ((ps.drop c).take n) ((us.drop c).take n) L'
 | [],us,L,h,c,n=>by rw [h.1];exact ⟨[],by simp [zAZ]⟩
 | p::ps,us,L,h,0,0=>⟨[],by simp [zAZ]⟩
 | p::ps,us,L,h,0,n+1=>by
  obtain ⟨v,vs,L1,L2,rfl,rfl,h1,h2⟩:=h
  obtain ⟨L',h'⟩:=h2.part 0 n
  exact ⟨L1++L',v,_,L1,L',rfl,rfl,h1,by simpa using h'⟩
 | p::ps,us,L,h,c+1,n=>by
  obtain ⟨v,vs,L1,L2,rfl,rfl,h1,h2⟩:=h
  simpa using h2.part c n
theorem zG8 {p:PV} {xs:List PV} (h:zA9 p=some xs):zAY p=some xs:=by cases p<;>first | exact h | cases h
theorem zBS {a:Addr} (h:a.spot=none) (j:Nat):a.add j=zAs a j:=by
 obtain ⟨b,o,sp⟩:=a
 simp only at h;subst h
 simp only [Addr.add,zAs]
 split
 ·rename_i hj;subst hj;rfl
 ·rfl
theorem zFX (a:Addr) (k j:Nat):(zAs a k).add j=zAs a (k+j):=by
 rw [zBS rfl];simp [zAs,Nat.add_assoc]
theorem zSh {nv:Value} {np:PV} {xs:List PV} {i c j:Nat} {ad:Addr} (h:zA9 np=some xs) (ha:zA3 nv np i c=some ad):kid w nv np i (c+j)=w.cell? (ad.add j):=by
 cases np<;>simp only [zA9] at h<;>try cases h
 ·cases nv with
  | slice a _ _ =>
   cases a with
   | none=>cases ha
   | some a=>simp only [zA3] at ha;cases ha;rw [zFX];simp [kid,Nat.add_assoc]
  | pointer a=>cases a<;>cases ha
  | _=>cases ha
 ·cases nv with
  | pointer a =>
   cases a with
   | none=>cases i<;>cases ha
   | some a=>cases i<;>simp only [zA3] at ha<;>cases ha;rw [zFX];simp [kid,Nat.add_assoc]
  | slice a _ _=>cases a<;>cases ha
  | _=>cases ha
theorem zFW {A:Al} {p:PV} {a:PV} {v:Value} (h:zGF A p a v):A a v:=by
 cases p<;>first | exact h | exact h.elim
theorem zEB:∀ {pre:zAS} {A:Al} {p:PV} {a:PV} {v:Value},zIk A p pre a v→A a v
 | [],_,_,_,_,h=>h
 | (i,c)::rest,A,p,a,v,h=>by
  simp only [zIk] at h
  cases hc:Eng.child p i c with
  | none=>rw [hc] at h;exact h.elim
  | some q=>rw [hc] at h;exact zFW (zEB h)
theorem Rep.cellsAll {A:Al} {p:PV} {v:Value} {L:List Nat} (h:Rep w Φ A p v L) (hn:zCf v=p.isAgg):zAZ w Φ A p.cells v.cells.toList L:=by
 cases hp:p.isAgg with
 | true =>
  cases p<;>simp [PV.isAgg] at hp
  obtain ⟨vs,rfl,h⟩:=h
  exact h
 | false =>
  have j2:p.cells=[p]:=by cases p<;>first | rfl | simp [PV.isAgg] at hp
  have hv:v.cells=#[v]:=by rw [hp] at hn;cases v<;>first | rfl | simp [zCf] at hn
  rw [j2,hv]
  exact ⟨v,[],L,[],rfl,by simp,h,rfl,rfl⟩
theorem zQB {A:Al} {np:PV} {nv:Value} {Li:List Nat} (h:Rep w Φ A np nv Li) {xs:List PV} (hx:zA9 np=some xs) {i:Nat} {x:PV} (hi:xs[i]? = some x) (c:Nat) :
  ∃ ux ad Lx,(∀ b∈Lx,b∈Li)∧zA3 nv np i c=some ad∧ad.spot=none∧(∀ k u,ux.cells.toList[k]? = some u→∀ j,k=c+j→w.cell? (ad.add j)=some u)∧zCf ux=x.isAgg∧ux.cells.size=x.cells.length∧zAZ w Φ (zGF A np) x.cells ux.cells.toList Lx:=by
 cases np<;>simp only [zA9] at hx<;>try cases hx
 case own sz =>
  obtain ⟨h1,h2,h3⟩ | ⟨a,n,r,us,L',rfl,h1,h2,h3,h4,h5,h6,⟨h7,uA⟩,h8,h9⟩:=h
  ·subst h1;simp at hi
  ·obtain ⟨ux,La,Lx,Lb,hu,rfl,hr,_,_⟩:=h9.split hi
   have hg:zCf ux=x.isAgg:=by
    have h1:(us.map zCf)[i]? = some (zCf ux):=by simp [hu]
    have h2:(xs.map PV.isAgg)[i]? = some x.isAgg:=by simp [hi]
    rw [uA] at h1;rw [h1] at h2;simpa using h2
   subst h1
   refine ⟨ux,zAs a (i*sz+c),Lx,fun b hb=>by simp [hb],rfl,rfl,?_,hg,?_,hr.cellsAll hg⟩
   ·intro k u hk j hkj
    have hf:=zDT h7 hu hk
    rw [← h8] at hf
    have:=zDv hf
    rw [zFX,show i*sz+c+j=i*sz+k by omega]
    simp only [zAs];rw [zDn h4.any];exact this
   ·rw [h7 ux (List.mem_of_getElem? hu),h6 x (List.mem_of_getElem? hi)]
 case box q0 =>
  obtain ⟨a,r,u0,L',rfl,h1,h2,h4,h5,⟨h6,u9⟩,h7⟩:=h
  have jr:i=0:=by
   cases i with
   | zero=>rfl
   | succ i=>simp at hi
  subst jr;simp at hi;subst hi
  subst h1
  refine ⟨u0,zAs a c,L',fun b hb=>by simp [hb],rfl,rfl,?_,u9,h6,h7.cellsAll u9⟩
  intro k u hk j hkj
  have:=zDv (c:=r) (o:=a.off) (n:=q0.cells.length) (k:=k) (u:=u) (by rw [h5];exact hk)
  rw [zFX,← hkj]
  simp only [zAs];rw [zDn h4.any];exact this
theorem zFa {r i:Nat} {pre:zAS} (hr:r<zAb):∀ {ps:List PV} {us:List Value} {L:List Nat} {c:Nat},zAZ w Φ (zA2 w rv E) ps us L →
  (∀ j p u,ps[j]? = some p→us[j]? = some u→zAU w (rv r) (E r).unlock (pre++[(i,c+j)])=some (u,p))→zAZ w Φ (zA2 w rv E) (zBN r pre i c ps) us []
 | [],us,L,c,h,_=>⟨h.1,rfl⟩
 | p::ps,us,L,c,h,hf=>by
  obtain ⟨v,vs,L1,L2,rfl,rfl,h1,h2⟩:=h
  refine ⟨v,vs,[],[],rfl,rfl,zMF hr (hf 0 p v rfl rfl) h1,zFa hr h2 fun j q u hq hu=>?_⟩
  have:=hf (j+1) q u (by simpa using hq) (by simpa using hu)
  rwa [show c+1+j=c+(j+1) by omega]
section
variable {w0:World} {U Φ0:Nat→Prop} {L:Nat→List Nat}
theorem Conf.view (h:Conf w0 U Φ0 w Φ rv E L) {s:Nat} (hs:s<zAb):Rep w Φ (zA2 w rv E) (view s (E s)) (rv s) []:=by
 have hr:=zBZ (h.rep s)
 have hv:Eng.view s (E s)=zSs s (E s).unlock:=by cases E s<;>rfl
 rw [hv]
 have hf:zAU w (rv s) (E s).unlock []=some (rv s,(E s).unlock):=rfl
 have key:∀ p,(E s).unlock=p→Rep w Φ (zA2 w rv E) (zSs s p) (rv s) []:=by
  intro p hp
  rw [hp] at hr hf
  cases p with
  | agg cs =>
   obtain ⟨vs,hv,hr⟩:=hr
   refine ⟨vs,hv,zFa hs hr fun j p u hj hu=>?_⟩
   rw [zDa,hp,hf,hv]
   show (zAU w (.agg vs) (.agg cs) [(0,0+j)])=_
   rw [zKf]
   have hu:vs[j]? = some u:=by simpa using hu
   simp [Eng.child,zAY,PV.cells,kid,hj,hu]
  | tup cs=>rfl
  | _=>exact zMF (pre:=[]) hs (by rw [hp];exact hf) hr
 exact key _ rfl
theorem Conf.cells (h:Conf w0 U Φ0 w Φ rv E L) {r:Nat} {pre:zAS} {i c n:Nat} {a:Bool} {qs:List PV} (hr:r<zAb) (hc:zAH r (E r) pre i c n=some (a,qs)) :
  ∃ nv np ad us,zAU w (rv r) (E r).unlock pre=some (nv,np)∧zA3 nv np i c=some ad∧ad.spot=none∧us.length=n∧(∀ j u,us[j]? = some u→w.cell? (ad.add j)=some u)∧zAZ w Φ (zA2 w rv E) qs us []:=by
 simp only [zAH] at hc
 cases hn:zAC (E r).unlock pre with
 | none=>rw [hn] at hc;cases hc
 | some np =>
  rw [hn] at hc;simp only at hc
  obtain ⟨nv,La,Li,Lb,hf,hL,hI,_,_⟩:=Rep.zip pre (zBZ (h.rep r)) hn
  cases hx:zA9 np with
  | none=>rw [hx] at hc;cases hc
  | some xs =>
   rw [hx] at hc;simp only at hc
   cases hxi:xs[i]? with
   | none=>rw [hxi] at hc;cases hc
   | some x =>
    rw [hxi] at hc;simp only at hc
    by_cases yK:c+n≤x.cells.length
    ·rw [Nat.ble_eq_true_of_le yK] at hc
     simp only [cond_true,Option.some.injEq,Prod.mk.injEq] at hc
     obtain ⟨rfl,rfl⟩:=hc
     obtain ⟨ux,ad,Lx,hA,jL,yS,kb,wV,yD,ub⟩:=zQB hI hx hxi c
     have hO:ux.cells.toList.length=x.cells.length:=(ub.length)
     refine ⟨nv,np,ad,(ux.cells.toList.drop c).take n,hf,jL,yS,by simp at hO ⊢;omega,?_,?_⟩
     ·intro j u hj
      simp only [List.getElem?_take,List.getElem?_drop] at hj
      split at hj
      ·exact kb (c+j) u hj j rfl
      ·cases hj
     ·obtain ⟨L',y9⟩:=ub.part c n
      refine zFa hr (y9.mono (A':=zA2 w rv E) zDo.refl (fun a v hw ha=>zEB (zFW ha)) (fun _ _=>rfl)) fun j p u hp hu=>?_
      simp only [List.getElem?_take,List.getElem?_drop] at hp hu
      split at hp
      ·rename_i hjn
       rw [if_pos hjn] at hu
       rw [zDa,hf];simp only [Option.bind_some];rw [zKf]
       have yi:Eng.child np i (c+j)=some p:=by
        simp only [Eng.child]
        rw [zG8 hx];simp [hxi,hp]
       rw [yi];simp only [Option.bind_some]
       rw [zSh hx jL (j:=j),kb (c+j) u hu j rfl];rfl
      ·cases hp
    ·have:Nat.ble (c+n) x.cells.length=false:=by
      cases hb:Nat.ble (c+n) x.cells.length with
      | false=>rfl
      | true=>exact absurd (Nat.le_of_ble_eq_true hb) yK
     rw [this] at hc;simp at hc
theorem Conf.put (h:Conf w0 U Φ0 w Φ rv E L) {s:Nat} {p:PV} {v:Value} (hp:p.heavy=false) (hr:Rep w Φ (zA2 w rv E) p v []) :
  Conf w0 U Φ0 w Φ (upd rv s v) (upd E s p) (upd L s []):=by
 have hA:∀ a u,a.isWay=true→zA2 w rv E a u→zA2 w (upd rv s v) (upd E s p) a u:=by
  intro a u _ ha
  refine ha.mono fun nv np hn hh=>?_
  by_cases hs:(zA4 a).1=s
  ·rw [hs,zAh,zAh] at hn
   have hu:p.unlock=p:=by cases p<;>first | rfl | simp [PV.heavy] at hp
   rw [hu] at hn
   have:=zEu hp hn
   rw [zFG hh] at this;cases this
  ·rw [zAf hs,zAf hs] at hn
   exact ⟨np,hn,zCd.refl hh⟩
 refine {h with rep:=?_,nodup:=?_,disj:=?_,own:=?_}
 ·intro t
  by_cases ht:t=s
  ·subst ht;rw [zAh,zAh,zAh];exact hr.mono zDo.refl hA (by simp)
  ·rw [zAf ht,zAf ht,zAf ht];exact (h.rep t).mono zDo.refl hA (fun _ _=>rfl)
 ·intro t
  by_cases ht:t=s
  ·subst ht;rw [zAh];simp
  ·rw [zAf ht];exact h.nodup t
 ·intro t t' hH b hb
  by_cases ht:t=s
  ·subst ht;rw [zAh] at hb;simp at hb
  ·rw [zAf ht] at hb
   by_cases gX:t'=s
   ·subst gX;rw [zAh];simp
   ·rw [zAf gX];exact h.disj t t' hH b hb
 ·intro t b hb
  by_cases ht:t=s
  ·subst ht;rw [zAh] at hb;simp at hb
  ·rw [zAf ht] at hb;exact h.own t b hb
end
end
def PV.dull:PV→Bool
 | .own .. | .box .. | .omap .. | .agg _ | .lock _=>false
 | _=>true
structure Tame (f:PV→PV):Prop where
 agg:∀ p,(f p).isAgg=p.isAgg
 dull:∀ p,p.isWay=true→(f p).dull=true
theorem zNt {p:PV} (h:p.dull=true):zAY p=none:=by cases p<;>first | rfl | cases h
theorem zM0 {p:PV} (h:p.dull=true):p.heavy0=false:=by cases p<;>first | rfl | cases h
theorem zM7 {p:PV} (h:p.dull=true):p.unlock=p:=by cases p<;>first | rfl | cases h
theorem zGP {f:PV→PV}:∀ (ps:List PV) (i:Nat),(zCK f ps)[i]? = (ps[i]?).map fun p=>p.mapW f
 | [],i=>by simp [zCK]
 | p::ps,0=>by simp [zCK]
 | p::ps,i+1=>by simp only [zCK,List.getElem?_cons_succ];exact zGP ps i
theorem zPb {f:PV→PV} (hf:Tame f) (q:PV) (c:Nat):(q.mapW f).cells[c]? = (q.cells[c]?).map fun p=>p.mapW f:=by
 cases hq:q.isAgg with
 | true =>
  cases q<;>simp [PV.isAgg] at hq
  simp only [PV.mapW,PV.cells];exact zGP _ _
 | false =>
  have h1:q.cells=[q]:=by cases q<;>first | rfl | simp [PV.isAgg] at hq
  have h2:(q.mapW f).isAgg=false:=by rw [zF4 hf.agg];exact hq
  have h3:(q.mapW f).cells=[q.mapW f]:=by revert h2;cases q.mapW f<;>intro h2<;>first | rfl | simp [PV.isAgg] at h2
  rw [h1,h3];cases c<;>simp
theorem zF2 {f:PV→PV} {p:PV} (h:p.isWay=true):p.mapW f=f p:=by cases p<;>first | rfl | cases h
theorem zDr {f:PV→PV} (hf:Tame f) (p:PV):(p.mapW f).unlock=p.unlock.mapW f:=by
 cases hp:p.isWay with
 | true =>
  have h1:p.unlock=p:=by cases p<;>first | rfl | cases hp
  rw [h1,zF2 hp,zM7 (hf.dull p hp)]
 | false=>cases p<;>first | rfl | cases hp
section
variable {w w':World} {Φ Φ':Nat→Prop} {rv rv':Nat→Value} {E E':Nat→PV}
theorem zTP {v:Value} {p q:PV} {i c:Nat}:kid w v (.box p) i c=kid w v (.box q) i c:=by
 cases v with
 | pointer a=>cases a<;>rfl
 | slice a _ _=>cases a<;>rfl
 | _=>rfl
theorem zTZ {v:Value} {p q:List PV} {i c:Nat}:kid w v (.agg p) i c=kid w v (.agg q) i c:=by
 cases v with
 | pointer a=>cases a<;>rfl
 | slice a _ _=>cases a<;>rfl
 | _=>rfl
theorem zCV {f:PV→PV} (hf:Tame f):∀ {pre:zAS} {p:PV} {v nv:Value} {np':PV},zAU w v (p.mapW f) pre=some (nv,np')→np'.heavy0=true →
  ∃ np,zAU w v p pre=some (nv,np)∧zCd np np'
 | [],p,v,nv,np',h,hh=>by
  simp only [zAU,Option.some.injEq,Prod.mk.injEq] at h
  obtain ⟨rfl,rfl⟩:=h
  refine ⟨p,rfl,?_⟩
  cases hp:p.isWay with
  | true=>rw [zF2 hp,zM0 (hf.dull p hp)] at hh;cases hh
  | false=>cases p<;>first | (cases hp;done) | (simp [PV.mapW,PV.heavy0] at hh;done) | simp [PV.mapW,zCd]
 | (i, c) :: rest,p,v,nv,np',h,hh=>by
  rw [zA1] at h
  cases hc:Eng.child (p.mapW f) i c with
  | none=>rw [hc] at h;cases h
  | some q' =>
   rw [hc] at h;simp only [Option.bind_some] at h
   cases hk:kid w v (p.mapW f) i c with
   | none=>rw [hk] at h;cases h
   | some u =>
    rw [hk] at h;simp only [Option.bind_some] at h
    have go:∀ q,Eng.child p i c=some q→kid w v p i c=some u→q'=q.mapW f→∃ np,zAU w v p ((i,c)::rest)=some (nv,np)∧zCd np np':=by
     intro q h1 h2 h3
     subst h3
     obtain ⟨np,hn,hl⟩:=zCV hf h hh
     exact ⟨np,by rw [zA1,h1];simp only [Option.bind_some];rw [h2];exact hn,hl⟩
    cases hp:p.isWay with
    | true =>
     rw [zF2 hp] at hc
     simp [Eng.child,zNt (hf.dull p hp)] at hc
    | false =>
     cases p<;>first | (cases hp;done) | (simp [PV.mapW,Eng.child,zAY] at hc;done) | skip
     case own sz xs=>exact ⟨np',by rw [zA1];simp only [PV.mapW] at hc hk;rw [hc];simp only [Option.bind_some];rw [hk];exact h,zCd.refl hh⟩
     case box q0 =>
      simp only [PV.mapW,Eng.child,zAY,Option.bind_some] at hc
      cases i with
      | succ i=>simp at hc
      | zero =>
       simp only [List.getElem?_cons_zero,Option.bind_some] at hc
       rw [zPb hf] at hc
       cases hq:q0.cells[c]? with
       | none=>rw [hq] at hc;cases hc
       | some q =>
        rw [hq] at hc;simp only [Option.map_some,Option.some.injEq] at hc
        exact go q (by simp [Eng.child,zAY,hq]) (by rw [← hk,PV.mapW];exact zTP) hc.symm
     case agg cs =>
      simp only [PV.mapW,Eng.child,zAY,Option.bind_some] at hc
      cases i with
      | succ i=>simp at hc
      | zero =>
       simp only [List.getElem?_cons_zero,Option.bind_some,PV.cells] at hc
       rw [zGP] at hc
       cases hq:cs[c]? with
       | none=>rw [hq] at hc;cases hc
       | some q =>
        rw [hq] at hc;simp only [Option.map_some,Option.some.injEq] at hc
        exact go q (by simp [Eng.child,zAY,PV.cells,hq]) (by rw [← hk,PV.mapW];exact zTZ) hc.symm
section
variable {w0:World} {U Φ0:Nat→Prop} {L L':Nat→List Nat}
theorem zCX {a:PV} {v:Value} (h:zA2 w rv E a v):(zA4 a).1<zAb:=by
 cases a<;>simp only [zA2] at h<;>first | exact h.1 | exact h.elim
theorem zCF (h:Conf w0 U Φ0 w Φ rv E L) {f:PV→PV} (hf:Tame f) {a:PV} {v:Value} (ha:zA2 w rv E a v) (hE:E' (zA4 a).1=(E (zA4 a).1).mapW f) (hv:rv' (zA4 a).1=rv (zA4 a).1)
  (hb:∀ b∈L (zA4 a).1,w'.heap[b]? = w.heap[b]?):zA2 w' rv' E' a v:=by
 refine ha.mono fun nv np hn hh=>?_
 rw [hE,hv,zDr hf] at hn
 obtain ⟨np0,kJ,hl⟩:=zCV hf hn hh
 rw [zE1 (zBZ (h.rep _)) hb] at kJ
 exact ⟨np0,kJ,hl⟩
theorem zLf {a:PV} {v:Value} (ha:zA2 w rv E a v) (hE:(E' (zA4 a).1).unlock.heavy=false):zA2 w' rv' E' a v:=by
 refine ha.mono fun nv np hn hh=>?_
 have:=zEu hE hn
 rw [zFG hh] at this;cases this
theorem Conf.step2 (h:Conf w0 U Φ0 w Φ rv E L) (σ:Nat→Option Nat) (f:PV→PV) (hf:Tame f)
  (hσ:∀ s s' t,σ s=some t→σ s'=some t→s=s')
  (hE:∀ s t,σ s=some t→E' s=(E t).mapW f∧rv' s=rv t∧L' s=L t)
  (hN:∀ s,σ s=none→Rep w' Φ (zA2 w' rv' E') (E' s) (rv' s) (L' s))
  (hA:∀ a v,a.isWay=true→zA2 w rv E a v→Rep w' Φ (zA2 w' rv' E') (f a) v [])
  (hd:∀ s,σ s=none→(L' s).Nodup) (wI:∀ s s',σ s=none→σ s'=none→s≠s'→∀ b∈L' s,b∉L' s')
  (ho:∀ s,σ s=none→∀ b∈L' s,(∃ t,b∈L t∧∀ s,σ s≠some t)∨(w.heap.size≤b∧b<w'.heap.size))
  (hw:w.heap.size≤w'.heap.size) (hk:∀ b,b<w.heap.size→(∀ t,b∈L t→∃ s,σ s=some t)→w'.heap[b]? = w.heap[b]?)
  (uB:w'.os=w.os∧w'.tape=w.tape∧w'.output=w.output):Conf w0 U Φ0 w' Φ rv' E' L':=by
 have gY:∀ s t,σ s=some t→∀ b∈L t,w'.heap[b]? = w.heap[b]?:=by
  intro s t hs b hb
  refine hk b (h.own t b hb).1 fun t' yF=>?_
  have:t'=t:=Classical.byContradiction fun hH=>h.disj t' t hH b yF hb
  exact ⟨s,this▸hs⟩
 have hΦ:zDo w w' Φ Φ:=fun b hb=>⟨hb,hk b (h.frz b hb).1 fun t kV=>absurd hb (h.own t b kV).2.1⟩
 have v1:∀ g,σ g=none→∀ b∈L' g,∀ t,b∈L t→∀ s,σ s≠some t:=by
  intro g hg b hb t kV s hs
  rcases ho g hg b hb with ⟨t',h1,h2⟩ | ⟨h1,h2⟩
  ·have:t'=t:=Classical.byContradiction fun hH=>h.disj t' t hH b h1 kV
   exact h2 s (this▸hs)
  ·have:=(h.own t b kV).1;omega
 refine ⟨?_,?_,?_,?_,?_,h.frz0,Nat.le_trans h.size hw,?_,uB.1.trans h.os,uB.2.1.trans h.tape,uB.2.2.trans h.output⟩
 ·intro s
  cases hs:σ s with
  | some t =>
   obtain ⟨h1,h2,h3⟩:=hE s t hs
   rw [h1,h2,h3]
   exact Rep.map hf.agg hΦ hA _ _ _ (gY s t hs) (h.rep t)
  | none=>exact hN s hs
 ·intro s
  cases hs:σ s with
  | some t=>rw [(hE s t hs).2.2];exact h.nodup t
  | none=>exact hd s hs
 ·intro s s' hH b hb yF
  cases hs:σ s with
  | some t =>
   rw [(hE s t hs).2.2] at hb
   cases jN:σ s' with
   | some t' =>
    rw [(hE s' t' jN).2.2] at yF
    have:t≠t':=fun e=>hH (hσ s s' t hs (e▸jN))
    exact h.disj t t' this b hb yF
   | none=>exact v1 s' jN b yF t hb s hs
  | none =>
   cases jN:σ s' with
   | some t'=>rw [(hE s' t' jN).2.2] at yF;exact v1 s hs b hb t' yF s' jN
   | none=>exact wI s s' hs jN hH b hb yF
 ·intro s b hb
  cases hs:σ s with
  | some t =>
   rw [(hE s t hs).2.2] at hb
   have:=h.own t b hb
   exact ⟨Nat.lt_of_lt_of_le this.1 hw,this.2⟩
  | none =>
   rcases ho s hs b hb with ⟨t,h1,_⟩ | ⟨h1,h2⟩
   ·have:=h.own t b h1
    exact ⟨Nat.lt_of_lt_of_le this.1 hw,this.2⟩
   ·exact ⟨h2,fun hp=>absurd (h.frz b hp).1 (by omega),.inr (Nat.le_trans h.size h1)⟩
 ·intro b hb
  have:=h.frz b hb
  exact ⟨Nat.lt_of_lt_of_le this.1 hw,this.2⟩
 ·intro b hb hu
  rw [hk b (Nat.lt_of_lt_of_le hb h.size) fun t kV=>?_]
  ·exact h.kept b hb hu
  ·rcases (h.own t b kV).2.2 with h1 | h1
   ·exact absurd h1 hu
   ·omega
theorem Conf.step (h:Conf w0 U Φ0 w Φ rv E L) (σ:Nat→Option Nat) (f:PV→PV) (g:Nat) (hf:Tame f)
  (hσ:∀ s s' t,σ s=some t→σ s'=some t→s=s')
  (hE:∀ s t,σ s=some t→E' s=(E t).mapW f∧rv' s=rv t∧L' s=L t)
  (hN:∀ s,σ s=none→Rep w' Φ (zA2 w' rv' E') (E' s) (rv' s) (L' s)∧(s≠g→L' s=[]))
  (hA:∀ a v,a.isWay=true→zA2 w rv E a v→Rep w' Φ (zA2 w' rv' E') (f a) v [])
  (hd:σ g=none→(L' g).Nodup) (ho:σ g=none→∀ b∈L' g,(∃ t,b∈L t∧∀ s,σ s≠some t)∨(w.heap.size≤b∧b<w'.heap.size))
  (hw:w.heap.size≤w'.heap.size) (hk:∀ b,b<w.heap.size→(∀ t,b∈L t→∃ s,σ s=some t)→w'.heap[b]? = w.heap[b]?)
  (uB:w'.os=w.os∧w'.tape=w.tape∧w'.output=w.output):Conf w0 U Φ0 w' Φ rv' E' L':=by
 refine h.step2 σ f hf hσ hE (fun s hs=>(hN s hs).1) hA (fun s hs=>?_) (fun s s' hs jN hH b hb yF=>?_) (fun s hs b hb=>?_) hw hk uB
 ·by_cases yb:s=g
  ·subst yb;exact hd hs
  ·rw [(hN s hs).2 yb];exact List.nodup_nil
 ·by_cases yb:s=g
  ·rw [(hN s' jN).2 (by rw [← yb];exact Ne.symm hH)] at yF;cases yF
  ·rw [(hN s hs).2 yb] at hb;cases hb
 ·by_cases yb:s=g
  ·subst yb;exact ho hs b hb
  ·rw [(hN s hs).2 yb] at hb;cases hb
theorem Conf.turn (h:Conf w0 U Φ0 w Φ rv E L) (σ:Nat→Option Nat) (f:PV→PV) (hf:Tame f)
  (hσ:∀ s s' t,σ s=some t→σ s'=some t→s=s')
  (hE:∀ s t,σ s=some t→E' s=(E t).mapW f∧rv' s=rv t∧L' s=L t)
  (hN:∀ s,σ s=none→E' s = .bad∧L' s=[])
  (hA:∀ a v,a.isWay=true→zA2 w rv E a v→Rep w Φ (zA2 w rv' E') (f a) v []):Conf w0 U Φ0 w Φ rv' E' L':=by
 refine h.step σ f 0 hf hσ hE (fun s hs=>?_) hA (fun hs=>?_) (fun hs=>?_) (Nat.le_refl _) (fun _ _ _=>rfl) ⟨rfl,rfl,rfl⟩
 ·obtain ⟨h1,h2⟩:=hN s hs
  rw [h1,h2];exact ⟨rfl,fun _=>rfl⟩
 ·rw [(hN _ hs).2];exact List.nodup_nil
 ·rw [(hN _ hs).2];simp
theorem zCe:Tame (fun x=>x):=⟨fun _=>rfl,fun p h=>by cases p<;>first | rfl | cases h⟩
theorem zDx {f:PV→PV} (h:∀ p,f p=p∨(p.isWay=true∧f p = .bad)):Tame f:=by
 refine ⟨fun p=>?_,fun p hp=>?_⟩
 ·rcases h p with h | ⟨h1,h2⟩
  ·rw [h]
  ·rw [h2];cases p<;>first | rfl | cases h1
 ·rcases h p with h | ⟨h1,h2⟩
  ·rw [h];cases p<;>first | rfl | cases hp
  ·rw [h2];rfl
theorem zGu (r:Nat) (pre:zAS) (p:PV):lose r pre p=p∨(p.isWay=true∧lose r pre p = .bad):=by
 cases p<;>first | exact .inl rfl | skip
 all_goals
  simp only [Eng.lose,PV.isWay,true_and]
  cases (Nat.beq _ r&&_)<;>simp
theorem zOT {r:Nat} {p:PV} {v:Value} (h:p.isWay=true) (hl:lose r [] p=p) (ha:zA2 w rv E p v):(zA4 p).1≠r:=by
 intro hr
 cases p<;>first | cases h | skip
 case log=>exact False.elim ha
 all_goals
  simp only [zA4] at hr;subst hr
  simp [Eng.lose] at hl
theorem Conf.take (h:Conf w0 U Φ0 w Φ rv E L) {s g:Nat} (hs:s<zAb) (hg:zAb≤g):Conf w0 U Φ0 w Φ (upd rv g (rv s)) (upd (upd E s .bad) g (E s)) (upd (upd L s []) g (L s)):=by
 have yb:s≠g:=by omega
 refine h.turn (fun t=>if t=g then some s else if t=s then none else some t) (fun x=>x) zCe ?_ ?_ ?_ ?_
 ·intro a b t ha hb
  split at ha<;>split at hb<;>simp_all<;>split at ha<;>simp_all
  all_goals (try split at hb)<;>simp_all
 ·intro a t ha
  split at ha
  ·rename_i e;cases ha;subst e;simp [zAh,zBg]
  ·rename_i e
   split at ha
   ·cases ha
   ·rename_i e2;cases ha;simp [zAf e,zAf e2,zBg]
 ·intro a ha
  split at ha
  ·cases ha
  ·rename_i e
   split at ha
   ·rename_i e2;subst e2;simp [zAf e,zAh]
   ·cases ha
 ·intro a v hw ha
  have hr:(zA4 a).1<zAb:=zCX ha
  refine zCW hw ?_
  by_cases jl:(zA4 a).1=s
  ·refine zLf ha ?_
   rw [zAf (by omega),jl,zAh];rfl
  ·refine zCF h zCe ha ?_ ?_ (fun _ _=>rfl)
   ·rw [zAf (by omega),zAf jl,zBg]
   ·rw [zAf (by omega)]
theorem Conf.lay (h:Conf w0 U Φ0 w Φ rv E L) {d g:Nat} (hd:d<zAb) (hg:zAb≤g):Conf w0 U Φ0 w Φ (upd rv d (rv g)) (upd (upd (fun s=>(E s).mapW (lose d [])) d ((E g).mapW (lose d []))) g .bad) (upd (upd L d (L g)) g []):=by
 have uc:d≠g:=by omega
 refine h.turn (fun t=>if t=g then none else if t=d then some g else some t) (lose d []) (zDx (zGu d [])) ?_ ?_ ?_ ?_
 ·intro a b t ha hb
  split at ha<;>split at hb<;>simp_all<;>split at ha<;>simp_all
  all_goals (try split at hb)<;>simp_all
 ·intro a t ha
  split at ha
  ·cases ha
  ·rename_i e
   split at ha
   ·rename_i e2;cases ha;subst e2;simp [zAf e,zAh]
   ·rename_i e2;cases ha;simp [zAf e,zAf e2]
 ·intro a ha
  split at ha
  ·rename_i e;subst e;simp [zAh]
  ·split at ha<;>cases ha
 ·intro a v hw ha
  have hr:(zA4 a).1<zAb:=zCX ha
  rcases zGu d [] a with hl | ⟨_,hl⟩
  ·rw [hl]
   have hH:=zOT hw hl ha
   refine zCW hw (zCF h (zDx (zGu d [])) ha ?_ ?_ (fun _ _=>rfl))
   ·rw [zAf (by omega),zAf hH]
   ·rw [zAf hH]
  ·rw [hl];rfl
theorem Conf.lose (h:Conf w0 U Φ0 w Φ rv E L) {f:PV→PV} (hf:∀ p,f p=p∨(p.isWay=true∧f p = .bad)):Conf w0 U Φ0 w Φ rv (fun s=>(E s).mapW f) L:=by
 refine h.turn some f (zDx hf) (fun a b t ha hb=>by cases ha;cases hb;rfl) (fun a t ha=>by cases ha;exact ⟨rfl,rfl,rfl⟩) (fun a ha=>by cases ha) fun a v hw ha=>?_
 rcases hf a with hl | ⟨_,hl⟩
 ·rw [hl];exact zCW hw (zCF h (zDx hf) ha rfl rfl (fun _ _=>rfl))
 ·rw [hl];rfl
theorem Conf.drop (h:Conf w0 U Φ0 w Φ rv E L) (D:Nat→Bool):Conf w0 U Φ0 w Φ rv (fun s=>if D s then .bad else E s) (fun s=>if D s then [] else L s):=by
 refine h.turn (fun s=>if D s then none else some s) (fun x=>x) zCe ?_ ?_ ?_ ?_
 ·intro a b t ha hb;split at ha<;>split at hb<;>simp_all
 ·intro a t ha;split at ha
  ·cases ha
  ·rename_i e;cases ha;simp [e,zBg]
 ·intro a ha;split at ha
  ·rename_i e;simp [e]
  ·cases ha
 ·intro a v hw ha
  refine zCW hw ?_
  by_cases hd:D (zA4 a).1=true
  ·exact zLf ha (by simp [hd];rfl)
  ·exact zCF h zCe ha (by simp [hd,zBg]) rfl (fun _ _=>rfl)
theorem Conf.hold (h:Conf w0 U Φ0 w Φ rv E L) {g:Nat} (hg:zAb≤g) {p:PV} {v:Value} (hr:Rep w Φ (zA2 w rv E) p v []) :
  Conf w0 U Φ0 w Φ (upd rv g v) (upd E g p) (upd L g []):=by
 have hA:∀ a u,a.isWay=true→zA2 w rv E a u→zA2 w (upd rv g v) (upd E g p) a u:=by
  intro a u _ ha
  have:=zCX ha
  exact zCF h zCe ha (by rw [zAf (by omega),zBg]) (by rw [zAf (by omega)]) (fun _ _=>rfl)
 refine h.step (fun s=>if s=g then none else some s) (fun x=>x) g zCe ?_ ?_ ?_ (fun a u hw ha=>zCW hw (hA a u hw ha)) (fun _=>?_) (fun _=>?_) (Nat.le_refl _) (fun _ _ _=>rfl) ⟨rfl,rfl,rfl⟩
 ·intro a b t ha hb;split at ha<;>split at hb<;>simp_all
 ·intro a t ha;split at ha
  ·cases ha
  ·rename_i e;cases ha;simp [zAf e,zBg]
 ·intro a ha;split at ha
  ·rename_i e;subst e
   rw [zAh,zAh,zAh]
   exact ⟨hr.mono zDo.refl hA (by simp),fun h=>absurd rfl h⟩
  ·cases ha
 ·rw [zAh];exact List.nodup_nil
 ·rw [zAh];simp
theorem Conf.make (h:Conf w0 U Φ0 w Φ rv E L) {w':World} (G:Nat→Bool) (hG:∀ s,G s=true→zAb≤s) {g:Nat} (hg:zAb≤g) {p:PV} {v:Value} {Lp:List Nat}
  (hr:∀ A:Al,(∀ a u,a.isWay=true→zA2 w rv E a u→A a u)→Rep w' Φ A p v Lp) (hd:Lp.Nodup)
  (ho:∀ b∈Lp,(∃ t,b∈L t∧G t=true)∨(w.heap.size≤b∧b<w'.heap.size))
  (hw:w.heap.size≤w'.heap.size) (hk:∀ b,b<w.heap.size→(∀ t,b∈L t→G t=false)→w'.heap[b]? = w.heap[b]?)
  (uB:w'.os=w.os∧w'.tape=w.tape∧w'.output=w.output) :
  Conf w0 U Φ0 w' Φ (upd rv g v) (upd (fun s=>if G s then .bad else E s) g p) (upd (fun s=>if G s then [] else L s) g Lp):=by
 have hA:∀ a u,a.isWay=true→zA2 w rv E a u→zA2 w' (upd rv g v) (upd (fun s=>if G s then .bad else E s) g p) a u:=by
  intro a u _ ha
  have yL:=zCX ha
  have hH:(zA4 a).1≠g:=by omega
  have hGn:G (zA4 a).1=false:=by
   cases hb:G (zA4 a).1 with
   | false=>rfl
   | true=>have:=hG _ hb;omega
  refine zCF h zCe ha (by rw [zAf hH];simp [hGn,zBg]) (by rw [zAf hH]) fun b hb=>hk b (h.own _ b hb).1 fun t ht=>?_
  have:t=(zA4 a).1:=Classical.byContradiction fun hn=>h.disj t _ hn b ht hb
  rw [this];exact hGn
 refine h.step (fun s=>if s=g then none else if G s then none else some s) (fun x=>x) g zCe ?_ ?_ ?_ (fun a u hw ha=>zCW hw (hA a u hw ha)) (fun _=>?_) (fun _=>?_) hw ?_ uB
 ·intro a b t ha hb
  split at ha<;>split at hb<;>simp_all
 ·intro a t ha
  split at ha
  ·cases ha
  ·rename_i e
   split at ha
   ·cases ha
   ·rename_i e2;cases ha;simp [zAf e,zBg,e2]
 ·intro a ha
  split at ha
  ·rename_i e;subst e
   rw [zAh,zAh,zAh]
   exact ⟨hr _ hA,fun h=>absurd rfl h⟩
  ·rename_i e
   split at ha
   ·rename_i e2
    rw [zAf e,zAf e,zAf e]
    exact ⟨by simp [e2,Rep],fun _=>by simp [e2]⟩
   ·cases ha
 ·rw [zAh];exact hd
 ·rw [zAh]
  intro b hb
  rcases ho b hb with ⟨t,h1,h2⟩ | h1
  ·refine .inl ⟨t,h1,fun s hs=>?_⟩
   split at hs
   ·cases hs
   ·split at hs
    ·cases hs
    ·rename_i e2;cases hs;exact e2 h2
  ·exact .inr h1
 ·intro b hb hc
  refine hk b hb fun t ht=>?_
  obtain ⟨s,hs⟩:=hc t ht
  split at hs
  ·cases hs
  ·split at hs
   ·cases hs
   ·rename_i e2;cases hs;simpa using e2
theorem zCd.trans {p q r:PV} (h1:zCd p q) (h2:zCd q r):zCd p r:=by
 cases p<;>cases q<;>simp only [zCd] at h1<;>cases r<;>simp_all [zCd]
theorem zMg {A A':Al} (hA:∀ a v,a.isWay=true→A a v→A' a v):∀ {pre:zAS} {p:PV},∀ a v,a.isWay=true→zIk A p pre a v→zIk A' p pre a v
 | [],p,a,v,hw,h=>hA a v hw h
 | (i,c)::rest,p,a,v,hw,h=>by
  simp only [zIk] at h ⊢
  cases hc:Eng.child p i c with
  | none=>rw [hc] at h;exact h.elim
  | some q =>
   rw [hc] at h
   exact zMg (zJ3 hA) a v hw h
def stays (f:PV→PV) (A:Al):Al:=fun a v=>A a v∧f a=a
theorem Conf.stays (h:Conf w0 U Φ0 w Φ rv E L) {f:PV→PV} (hf:∀ p,f p=p∨(p.isWay=true∧f p = .bad)) (s:Nat):Rep w Φ (stays f (zA2 w rv E)) ((E s).mapW f) (rv s) (L s):=by
 refine Rep.map (zDx hf).agg zDo.refl (fun a v hw ha=>?_) _ _ _ (fun _ _=>rfl) (h.rep s)
 rcases hf a with hl | ⟨_,hl⟩
 ·rw [hl];exact zCW hw ⟨ha,hl⟩
 ·rw [hl];rfl
theorem Conf.mod (h:Conf w0 U Φ0 w Φ rv E L) {r:Nat} (hr:r<zAb) {f:PV→PV} (hf:∀ p,f p=p∨(p.isWay=true∧f p = .bad)) {pre:zAS} {q:PV}
  (jT:((E r).mapW f).unlock=(E r).mapW f) (hn:zAC ((E r).mapW f) pre=some q) :
  ∃ nv Li,zAU w (rv r) ((E r).mapW f) pre=some (nv,q)∧Rep w Φ (zIk (Eng.stays f (zA2 w rv E)) ((E r).mapW f) pre) q nv Li∧Li.Nodup∧(∀ b∈Li,b∈L r) ∧
   ∀ (G:Nat→Bool) (w':World) (q' root':PV) (Li':List Nat),(∀ s,G s=true→zAb≤s)→(pre≠[]→q'.isAgg=q.isAgg)→zAv (fun _=>some q') ((E r).mapW f) pre=some root'→root'.unlock=root' →
    (∀ A:Al,(∀ a u,a.isWay=true→Eng.stays f (zA2 w rv E) a u→A a u)→Rep w' Φ (zIk A ((E r).mapW f) pre) q' nv Li')→Li'.Nodup →
    (∀ b∈Li',b∈Li∨(∃ t,b∈L t∧G t=true)∨(w.heap.size≤b∧b<w'.heap.size))→w.heap.size≤w'.heap.size →
    (∀ b,b<w.heap.size→b∉Li→(∀ t,b∈L t→G t=false)→w'.heap[b]? = w.heap[b]?) →
    (∀ rest nv2 np2,zAU w' nv q' rest=some (nv2,np2)→np2.heavy0=true→(∀ a,a.isWay=true→zA4 a=(r,pre++rest)→f a≠a)∨∃ np0,zAU w nv q rest=some (nv2,np0)∧zCd np0 np2) →
    (w'.os=w.os∧w'.tape=w.tape∧w'.output=w.output) →
    ∃ L',(∀ s,s≠r→L' s=if G s then [] else L s)∧Conf w0 U Φ0 w' Φ rv (fun s=>if s=r then root' else if G s then .bad else (E s).mapW f) L':=by
 have hs:=h.stays hf r
 obtain ⟨nv,La,Li,Lb,ud,hL,hI,v3,uI⟩:=Rep.zip pre hs hn
 have yY:=h.nodup r
 rw [hL] at yY
 have LH:∀ b∈La++Lb,b∉Li:=by
  intro b hb ue
  simp only [List.nodup_append] at yY
  rcases List.mem_append.1 hb with hb | hb
  ·exact yY.1.2.2 b hb b ue rfl
  ·exact yY.2.2 b (by simp [ue]) b hb rfl
 refine ⟨nv,Li,ud,hI,?_,fun b hb=>by rw [hL];simp [hb],?_⟩
 ·simp only [List.nodup_append] at yY;exact yY.1.2.1
 intro G w' q' root' Li' hG yt hm yG hR hd ho hw hk wW uB
 have hkL:∀ t,G t=false→∀ b∈L t,b∉Li→w'.heap[b]? = w.heap[b]?:=by
  intro t ht b hb ue
  refine hk b (h.own t b hb).1 ue fun t' gX=>?_
  have:t'=t:=Classical.byContradiction fun hH=>h.disj t' t hH b gX hb
  rw [this];exact ht
 have hGr:G r=false:=by
  cases hb:G r with
  | false=>rfl
  | true=>have:=hG _ hb;omega
 have LI:∀ b∈La++Lb,w'.heap[b]? = w.heap[b]?:=by
  intro b hb
  exact hkL r hGr b (by rw [hL];simp at hb ⊢;rcases hb with h | h<;>simp [h]) (LH b hb)
 have hLiL:∀ t,t≠r→∀ b∈L t,b∉Li:=by
  intro t hH b hb ue
  exact h.disj t r hH b hb (by rw [hL];simp [ue])
 have hA : ∀ a u,a.isWay=true→zA2 w rv E a u→f a=a→zA2 w' rv (fun s=>if s=r then root' else if G s then .bad else (E s).mapW f) a u:=by
  intro a u uf ha hfa
  have yL:=zCX ha
  by_cases jz:(zA4 a).1=r
  ·refine ha.mono fun nv2 np2 j5 hh=>?_
   simp only [jz,if_true] at j5 ⊢
   rw [yG] at j5
   have back:∀ np0,zAU w (rv r) ((E r).mapW f) (zA4 a).2=some (nv2,np0)→zCd np0 np2→∃ np0,zAU w (rv r) (E r).unlock (zA4 a).2=some (nv2,np0)∧zCd np0 np2:=by
    intro np0 h1 h2
    rw [← jT,zDr (zDx hf)] at h1
    obtain ⟨np1,h3,h4⟩:=zCV (zDx hf) h1 (zDF h2)
    exact ⟨np1,h3,h4.trans h2⟩
   rcases uI w' q' root' LI yt hm _ nv2 np2 j5 hh with ⟨rest,h1,h2⟩ | ⟨np0,h1,h2⟩
   ·rcases wW rest nv2 np2 h2 hh with h3 | ⟨np0,h3,h4⟩
    ·exact absurd hfa (h3 a uf (Prod.ext jz h1))
    ·refine back np0 ?_ h4
     rw [h1,zDa,ud];exact h3
   ·exact back np0 h1 h2
  ·have hGa:G (zA4 a).1=false:=by
    cases hb:G (zA4 a).1 with
    | false=>rfl
    | true=>have:=hG _ hb;omega
   exact zCF h (zDx hf) ha (by simp [jz,hGa]) rfl fun b hb=>hkL _ hGa b hb (hLiL _ jz b hb)
 have hA':∀ a u,a.isWay=true→zA2 w rv E a u→Rep w' Φ (zA2 w' rv (fun s=>if s=r then root' else if G s then .bad else (E s).mapW f)) (f a) u []:=by
  intro a u uf ha
  rcases hf a with hl | ⟨_,hl⟩
  ·rw [hl];exact zCW uf (hA a u uf ha hl)
  ·rw [hl];rfl
 have hΦ:zDo w w' Φ Φ:=fun b hb=>⟨hb,hk b (h.frz b hb).1 (fun ue=>(h.own r b (by rw [hL];simp [ue])).2.1 hb) fun t kV=>absurd hb (h.own t b kV).2.1⟩
 refine ⟨fun s=>if s=r then La++Li'++Lb else if G s then [] else L s,fun s yV=>by simp [yV],?_⟩
 refine h.step (fun s=>if s=r then none else if G s then none else some s) f r (zDx hf) ?_ ?_ ?_ hA' (fun _=>?_) (fun _=>?_) hw ?_ uB
 ·intro a b t ha hb
  split at ha<;>split at hb<;>simp_all
 ·intro a t ha
  split at ha
  ·cases ha
  ·rename_i e
   split at ha
   ·cases ha
   ·rename_i e2;cases ha;simp [e,e2]
 ·intro a ha
  by_cases e:a=r
  ·subst e
   simp only [if_true]
   exact ⟨v3 w' Φ _ q' Li' root' (fun a u uf ha=>hA a u uf ha.1 ha.2) hΦ LI yt (hR _ fun a u uf ha=>hA a u uf ha.1 ha.2) hm,fun h=>absurd rfl h⟩
  ·simp only [e,if_false] at ha ⊢
   split at ha
   ·rename_i e2;exact ⟨by simp [e2,Rep],fun _=>by simp [e2]⟩
   ·cases ha
 ·simp only [if_true]
  simp only [List.nodup_append] at yY ⊢
  have hx:∀ b∈Li',b∈La++Lb→False:=by
   intro b hb jS
   have wJ:b∈L r:=by rw [hL];simp at jS ⊢;rcases jS with h | h<;>simp [h]
   rcases ho b hb with h1 | ⟨t,h1,h2⟩ | h1
   ·exact LH b jS h1
   ·have:t≠r:=fun e=>by rw [e,hGr] at h2;cases h2
    exact h.disj t r this b h1 wJ
   ·have:=(h.own r b wJ).1;omega
  refine ⟨⟨yY.1.1,hd,fun a ha b hb e=>hx b hb (by subst e;simp [ha])⟩,yY.2.1,fun a ha b hb e=>?_⟩
  subst e
  rcases List.mem_append.1 ha with ha | ha
  ·exact yY.2.2 a (by simp [ha]) a hb rfl
  ·exact hx a ha (by simp [hb])
 ·simp only [if_true]
  intro b hb
  have yW:∀ t,t=r∨G t=true→∀ s,(if s=r then none else if G s then none else some s)≠some t:=by
   intro t ht s hs
   split at hs
   ·cases hs
   ·rename_i e
    split at hs
    ·cases hs
    ·rename_i e2;cases hs
     rcases ht with h | h
     ·exact e h
     ·exact e2 h
  rcases List.mem_append.1 hb with hb | hb
  ·rcases List.mem_append.1 hb with hb | hb
   ·exact .inl ⟨r,by rw [hL];simp [hb],yW r (.inl rfl)⟩
   ·rcases ho b hb with h1 | ⟨t,h1,h2⟩ | h1
    ·exact .inl ⟨r,by rw [hL];simp [h1],yW r (.inl rfl)⟩
    ·exact .inl ⟨t,h1,yW t (.inr h2)⟩
    ·exact .inr h1
  ·exact .inl ⟨r,by rw [hL];simp [hb],yW r (.inl rfl)⟩
 ·intro b hb hc
  have jd:b∉L r:=by
   intro wJ
   obtain ⟨s,hs⟩:=hc r wJ
   split at hs
   ·cases hs
   ·rename_i e
    split at hs
    ·cases hs
    ·cases hs;exact e rfl
  refine hk b hb (fun ue=>jd (by rw [hL];simp [ue])) fun t ht=>?_
  obtain ⟨s,hs⟩:=hc t ht
  split at hs
  ·cases hs
  ·split at hs
   ·cases hs
   ·rename_i e2;cases hs;simpa using e2
theorem Conf.takeNode (h:Conf w0 U Φ0 w Φ rv E L) {r g:Nat} (hr:r<zAb) (hg:zAb≤g) {pre:zAS} {q root':PV} (jT:(E r).unlock=E r) (hn:zAC (E r) pre=some q) (yt:q.isAgg=false)
  (hm:zAv (fun _=>some .bad) (E r) pre=some root') (yG:root'.unlock=root') :
  ∃ nv Li,zAU w (rv r) (E r) pre=some (nv,q)∧Rep w Φ (zA2 w rv E) q nv Li∧Li.Nodup∧(∀ b∈Li,b∈L r)∧∀ (p':PV) (v':Value) (Lg:List Nat),Rep w Φ (zA2 w rv E) p' v' Lg→Lg.Nodup→(∀ b∈Lg,b∈Li∨b∈L g) →
   ∃ L',Conf w0 U Φ0 w Φ (upd rv g v') (upd (upd E r root') g p') L'∧∀ s,s≠r→s≠g→L' s=L s:=by
 have js:r≠g:=by omega
 obtain ⟨nv,La,Li,Lb,ud,hL,hI,v3,uI⟩:=Rep.zip pre (h.rep r) hn
 have yY:=h.nodup r
 rw [hL] at yY
 simp only [List.nodup_append] at yY
 have y9:∀ b,b∈La++Lb→b∈L r:=fun b hb=>by rw [hL];simp at hb ⊢;rcases hb with h | h<;>simp [h]
 have qC:∀ b∈Li,b∈L r:=fun b hb=>by rw [hL];simp [hb]
 have vD:∀ b∈Li,b∉La++Lb:=by
  intro b hb jS
  rcases List.mem_append.1 jS with h2 | h2
  ·exact yY.1.2.2 b h2 b hb rfl
  ·exact yY.2.2 b (by simp [hb]) b h2 rfl
 refine ⟨nv,Li,ud,hI.mono zDo.refl (fun _ _ _ h=>zEB h) (fun _ _=>rfl),yY.1.2.1,qC,fun p' v' Lg je hLg LJ=>?_⟩
 have qD:∀ b∈Lg,b∉La++Lb:=by
  intro b hb jS
  rcases LJ b hb with h1 | h1
  ·exact vD b h1 jS
  ·exact h.disj r g js b (y9 b jS) h1
 have hA:∀ a u,a.isWay=true→zA2 w rv E a u→zA2 w (upd rv g v') (upd (upd E r root') g p') a u:=by
  intro a u uf ha
  have yL:=zCX ha
  by_cases jz:(zA4 a).1=r
  ·refine ha.mono fun nv2 np2 j5 hh=>?_
   rw [jz] at j5 ⊢
   rw [zAf js,zAf js,zAh,yG] at j5
   rcases uI w .bad root' (fun _ _=>rfl) (fun _=>yt.symm) hm _ nv2 np2 j5 hh with ⟨rest,h1,h2⟩ | ⟨np0,h1,h2⟩
   ·cases rest with
    | nil=>simp only [zAU,Option.some.injEq,Prod.mk.injEq] at h2;rw [← h2.2] at hh;cases hh
    | cons x rest=>obtain ⟨i,c⟩:=x;rw [zA1] at h2;simp [Eng.child,zAY] at h2
   ·rw [jT];exact ⟨np0,h1,h2⟩
  ·exact zCF h zCe ha (by rw [zAf (by omega),zAf jz,zBg]) (by rw [zAf (by omega)]) (fun _ _=>rfl)
 refine ⟨upd (upd L r (La++Lb)) g Lg,?_,fun s h1 h2=>by rw [zAf h2,zAf h1]⟩
 refine h.step2 (fun s=>if s=r then none else if s=g then none else some s) (fun x=>x) zCe ?_ ?_ ?_ (fun a u uf ha=>zCW uf (hA a u uf ha)) ?_ ?_ ?_ (Nat.le_refl _) (fun _ _ _=>rfl) ⟨rfl,rfl,rfl⟩
 ·intro a b t ha hb
  split at ha<;>split at hb<;>simp_all
 ·intro a t ha
  split at ha
  ·cases ha
  ·rename_i e1
   split at ha
   ·cases ha
   ·rename_i e2;cases ha;simp [zAf e1,zAf e2,zBg]
 ·intro a ha
  by_cases e1:a=r
  ·subst e1
   rw [zAf js,zAf js,zAf js,zAh,zAh]
   have:=v3 w Φ (zA2 w (upd rv g v') (upd (upd E a root') g p')) .bad [] root' hA zDo.refl (fun _ _=>rfl) (fun _=>yt.symm) rfl hm
   simpa using this
  ·have e2:a=g:=by
    rw [if_neg e1] at ha
    by_cases e2:a=g
    ·exact e2
    ·rw [if_neg e2] at ha;cases ha
   subst e2
   rw [zAh,zAh,zAh]
   exact je.mono zDo.refl (fun a u hw h=>hA a u hw h) (fun _ _=>rfl)
 ·intro a ha
  by_cases e1:a=r
  ·subst e1
   rw [zAf js,zAh,List.nodup_append]
   exact ⟨yY.1.1,yY.2.1,fun x hx y hy e=>yY.2.2 x (by simp [hx]) y hy e⟩
  ·rw [if_neg e1] at ha
   by_cases e2:a=g
   ·subst e2;rw [zAh];exact hLg
   ·rw [if_neg e2] at ha;cases ha
 ·intro s s' hs jN hH b hb yF
  have kK:s=r∨s=g:=by by_cases e1:s=r;exact .inl e1;rw [if_neg e1] at hs;by_cases e2:s=g;exact .inr e2;rw [if_neg e2] at hs;cases hs
  have hs2':s'=r∨s'=g:=by by_cases e1:s'=r;exact .inl e1;rw [if_neg e1] at jN;by_cases e2:s'=g;exact .inr e2;rw [if_neg e2] at jN;cases jN
  rcases kK with rfl | rfl<;>rcases hs2' with rfl | rfl
  ·exact hH rfl
  ·rw [zAf js,zAh] at hb;rw [zAh] at yF;exact qD b yF hb
  ·rw [zAh] at hb;rw [zAf js,zAh] at yF;exact qD b hb yF
  ·exact hH rfl
 ·intro s hs b hb
  have kK:s=r∨s=g:=by by_cases e1:s=r;exact .inl e1;rw [if_neg e1] at hs;by_cases e2:s=g;exact .inr e2;rw [if_neg e2] at hs;cases hs
  have jd:∀ t,t=r∨t=g→∀ x,(if x=r then none else if x=g then none else some x)≠some t:=by
   intro t ht x hx
   split at hx
   ·cases hx
   ·rename_i e1
    split at hx
    ·cases hx
    ·rename_i e2;cases hx;rcases ht with h | h<;>contradiction
  rcases kK with rfl | rfl
  ·rw [zAf js,zAh] at hb;exact .inl ⟨s,y9 b hb,jd s (.inl rfl)⟩
  ·rw [zAh] at hb
   rcases LJ b hb with h1 | h1
   ·exact .inl ⟨r,qC b h1,jd r (.inl rfl)⟩
   ·exact .inl ⟨s,h1,jd s (.inr rfl)⟩
end
end
end Go.Eng
namespace Go.Eng
open Go
theorem zBk:∀ ps:List PV,(zAo ps).length=ps.length
 | []=>rfl
 | p::ps=>by simp [zAo,zBk ps]
theorem zJe:∀ (ps:List PV) (i:Nat),(zAo ps)[i]? = (ps[i]?).map zA0
 | [],i=>by simp [zAo]
 | p::ps,0=>by simp [zAo]
 | p::ps,i+1=>by simp only [zAo,List.getElem?_cons_succ];exact zJe ps i
theorem zCC:∀ ps:List PV,zAo ps=ps.map zA0
 | []=>rfl
 | p::ps=>by simp [zAo,zCC ps]
theorem zC5 (p:PV):(zA0 p).isAgg=p.isAgg:=by cases p<;>rfl
theorem zMD (p:PV):(zA0 p).cells=zAo p.cells:=by cases p<;>rfl
theorem zC6 (p:PV):(zA0 p).cells.length=p.cells.length:=by rw [zMD,zBk]
theorem zGN (ps:List PV):(zAo ps).map PV.isAgg=ps.map PV.isAgg:=by
 rw [zCC,List.map_map];exact List.map_congr_left fun p _=>zC5 p
section
variable {w:World} {Φ Φ':Nat→Prop}
mutual
theorem zD2 {A:Al} (hΦ:∀ b,Φ b→Φ' b):∀ (p:PV) (v:Value) (L:List Nat),(∀ b∈L,Φ' b)→Rep w Φ A p v L→Rep w Φ' A (zA0 p) v []
 | .own sz xs,v,L,hL,h=>by
  obtain ⟨h1,h2,h3⟩ | ⟨a,n,c,us,L',rfl,h1,h2,h3,h4,h5,h6,h7,h8,h9⟩:=h
  ·subst h1;exact ⟨rfl,.inl ⟨rfl,none,0,h3,fun _=>rfl⟩⟩
  ·refine ⟨rfl,.inr ⟨a,n,c,us,sz,by rw [zBk];exact h1,h2,by rw [zBk];exact h3,hL _ (by simp),h4.any,?_,⟨h7.1,by rw [zGN];exact h7.2⟩,by rw [zBk];exact h8,?_⟩⟩
   ·intro x hx
    rw [zCC] at hx
    obtain ⟨y,hy,rfl⟩:=List.mem_map.1 hx
    rw [zC6];exact h6 y hy
   ·exact zDt hΦ xs us L' (fun b hb=>hL b (by simp [hb])) h9
 | .box q,v,L,hL,h=>by
  obtain ⟨a,c,u,L',rfl,h1,h2,h4,h5,h6,h7⟩:=h
  exact ⟨rfl,a,c,u,h1,h2,hL _ (by simp),h4.any,by rw [zC6];exact h5,by rw [zC6,zC5];exact h6,zD2 hΦ q u L' (fun b hb=>hL b (by simp [hb])) h7⟩
 | .omap es,v,L,hL,h=>by
  obtain ⟨b,ents,rfl,h1,h3,h4⟩:=h
  exact ⟨rfl,b,ents,h1,hL _ (by simp),h3,zEq.same (fun b hb=>⟨hΦ b hb,rfl⟩) es _ _ h4⟩
 | .agg cs,v,L,hL,h=>by
  obtain ⟨vs,rfl,h⟩:=h
  exact ⟨vs,rfl,zDt hΦ cs _ L hL h⟩
 | .tup _,_,_,_,_=>rfl
 | .lock _,_,_,_,_=>rfl
 | .bad,_,_,_,_=>rfl
 | .und,_,_,_,h=>⟨h.1,rfl⟩
 | .int ..,_,_,_,h=>⟨h.1,rfl⟩
 | .bool _,_,_,_,h=>⟨h.1,rfl⟩
 | .nilp,_,_,_,h=>⟨h.1,rfl⟩
 | .nilf,_,_,_,h=>⟨h.1,rfl⟩
 | .nilm,_,_,_,h=>⟨h.1,rfl⟩
 | .nn,_,_,_,h=>⟨rfl,h.2⟩
 | .nils _,_,_,_,h=>⟨h.1,rfl⟩
 | .sl xs,v,L,_,h=>by have h0:=h.1;subst h0;exact h.mono (fun b hb=>⟨hΦ b hb,rfl⟩) (fun _ _ _ h=>h) (fun _ _=>rfl)
 | .ref q,v,L,_,h=>by have h0:=h.1;subst h0;exact h.mono (fun b hb=>⟨hΦ b hb,rfl⟩) (fun _ _ _ h=>h) (fun _ _=>rfl)
 | .map es,v,L,_,h=>by have h0:=h.1;subst h0;exact h.mono (fun b hb=>⟨hΦ b hb,rfl⟩) (fun _ _ _ h=>h) (fun _ _=>rfl)
 | .func _ _ _,v,L,_,h=>by have h0:=h.1;subst h0;exact h.mono (fun b hb=>⟨hΦ b hb,rfl⟩) (fun _ _ _ h=>h) (fun _ _=>rfl)
 | .addr ..,_,_,_,h=>⟨rfl,h.2⟩
 | .bor ..,_,_,_,h=>⟨rfl,h.2⟩
 | .bsl ..,_,_,_,h=>⟨rfl,h.2⟩
 | .bmap ..,_,_,_,h=>⟨rfl,h.2⟩
 | .yld _,_,_,_,h=>⟨rfl,h.2⟩
 | .log ..,_,_,_,h=>⟨rfl,h.2⟩
theorem zDt {A:Al} (hΦ:∀ b,Φ b→Φ' b):∀ (ps:List PV) (vs:List Value) (L:List Nat),(∀ b∈L,Φ' b)→zAZ w Φ A ps vs L→zAZ w Φ' A (zAo ps) vs []
 | [],_,_,_,h=>⟨h.1,rfl⟩
 | p::ps,vs,L,hL,h=>by
  obtain ⟨v,vs',L1,L2,rfl,rfl,h1,h2⟩:=h
  exact ⟨v,vs',[],[],rfl,rfl,zD2 hΦ p v L1 (fun b hb=>hL b (by simp [hb])) h1,zDt hΦ ps vs' L2 (fun b hb=>hL b (by simp [hb])) h2⟩
end
theorem zH5:∀ {pre:zAS} {p:PV} {v nv:Value} {np:PV},zAU w v (zA0 p) pre=some (nv,np)→np.heavy0=false
 | [],p,v,nv,np,h=>by
  simp only [zAU,Option.some.injEq,Prod.mk.injEq] at h
  obtain ⟨_,rfl⟩:=h
  cases p<;>rfl
 | (i, c)::rest,p,v,nv,np,h=>by
  rw [zA1] at h
  cases hc:Eng.child (zA0 p) i c with
  | none=>rw [hc] at h;cases h
  | some q =>
   rw [hc] at h;simp only [Option.bind_some] at h
   cases hk:kid w v (zA0 p) i c with
   | none=>rw [hk] at h;cases h
   | some u =>
    rw [hk] at h;simp only [Option.bind_some] at h
    cases p<;>first | (simp [Eng.child,zAY,zA0] at hc;done) | skip
    rename_i cs
    cases i with
    | succ i=>simp [Eng.child,zAY,zA0] at hc
    | zero =>
     simp only [Eng.child,zAY,zA0,Option.bind_some,List.getElem?_cons_zero,PV.cells] at hc
     rw [zJe] at hc
     cases hq:cs[c]? with
     | none=>rw [hq] at hc;cases hc
     | some q0=>rw [hq] at hc;simp only [Option.map_some,Option.some.injEq] at hc;subst hc;exact zH5 h
end
theorem zHG {c:Array Value} {o n:Nat} {l:List Value} (hl:l.length=n) (h:∀ k u,l[k]? = some u→c[o+k]? = some u):seg c o n=l:=by
 apply List.ext_getElem?
 intro k
 simp only [seg,List.getElem?_take,List.getElem?_drop]
 by_cases hk:k<n
 ·rw [if_pos hk]
  have : ∃ u, l[k]? = some u := ⟨l[k]'(by omega), by simp [hl, hk]⟩
  obtain ⟨u,hu⟩:=this
  rw [hu,Array.getElem?_toList];exact h k u hu
 ·rw [if_neg hk,List.getElem?_eq_none (by omega)]
section
variable {w:World} {Φ:Nat→Prop}
theorem zK2 {A:Al} {np:PV} {nv:Value} {Li:List Nat} (h:Rep w Φ A np nv Li) {xs:List PV} (hx:zA9 np=some xs) {i:Nat} {x:PV} (hi:xs[i]? = some x) :
  ∃ ux row ad Lx,ad.block∈Li∧ad.spot=none∧zFf w ad.block row∧(∀ b∈Lx,b∈Li)∧(∀ c,zA3 nv np i c=some (zAs ad c)) ∧
   (∀ c n,c+n≤x.cells.length→seg row (ad.off+c) n=(ux.cells.toList.drop c).take n)∧zCf ux=x.isAgg∧ux.cells.size=x.cells.length∧Rep w Φ (zGF A np) x ux Lx:=by
 cases np<;>simp only [zA9] at hx<;>try cases hx
 case own sz =>
  obtain ⟨h1,h2,h3⟩ | ⟨a,n,r,us,L',rfl,h1,h2,h3,h4,h5,h6,⟨h7,uA⟩,h8,h9⟩:=h
  ·subst h1;simp at hi
  ·obtain ⟨ux,La,Lx,Lb,hu,rfl,hr,_,_⟩:=h9.split hi
   have hg:zCf ux=x.isAgg:=by
    have h1:(us.map zCf)[i]? = some (zCf ux):=by simp [hu]
    have h2:(xs.map PV.isAgg)[i]? = some x.isAgg:=by simp [hi]
    rw [uA] at h1;rw [h1] at h2;simpa using h2
   have yD:ux.cells.size=x.cells.length:=by rw [h7 ux (List.mem_of_getElem? hu),h6 x (List.mem_of_getElem? hi)]
   subst h1
   refine ⟨ux,r,zAs a (i*sz),Lx,by simp [zAs],rfl,h4,fun b hb=>by simp [hb],fun c=>by simp [zA3,zAs,Nat.add_assoc],?_,hg,yD,hr⟩
   intro c m hcm
   refine zHG (by simp;omega) fun k u hk=>?_
   simp only [List.getElem?_take,List.getElem?_drop] at hk
   split at hk
   ·have hf:=zDT h7 hu hk
    rw [← h8] at hf
    have:=zDv hf
    simp only [zAs]
    rw [show a.off+i*sz+c+k=a.off+(i*sz+(c+k)) by omega];exact this
   ·cases hk
 case box q0 =>
  obtain ⟨a,r,u0,L',rfl,h1,h2,h4,h5,⟨h6,u9⟩,h7⟩:=h
  have jr:i=0:=by
   cases i with
   | zero=>rfl
   | succ i=>simp at hi
  subst jr;simp at hi;subst hi
  subst h1
  refine ⟨u0,r,a,L',by simp,h2,h4,fun b hb=>by simp [hb],fun c=>rfl,?_,u9,h6,h7⟩
  intro c m hcm
  refine zHG (by simp;omega) fun k u hk=>?_
  simp only [List.getElem?_take,List.getElem?_drop] at hk
  split at hk
  ·have:=zDv (c:=r) (o:=a.off) (n:=q0.cells.length) (k:=c+k) (u:=u) (by rw [h5];exact hk)
   rw [Nat.add_assoc];exact this
  ·cases hk
end
theorem zCQ (u:Value) (us:List Value):flat (u::us)=u.cells.toList++flat us:=rfl
theorem zJs {sz:Nat}:∀ {us:List Value},(∀ u∈us,u.cells.size=sz)→∀ lo,(flat us).drop (lo*sz)=flat (us.drop lo)
 | [],_,lo=>by simp [flat]
 | u::us,h,0=>by simp
 | u::us,h,lo+1=>by
  have hu:u.cells.toList.length=sz:=by simpa using h u (by simp)
  rw [zCQ,Nat.succ_mul,Nat.add_comm,← List.drop_drop,List.drop_left' hu]
  exact zJs (fun u hu=>h u (by simp [hu])) lo
theorem zJi {sz:Nat}:∀ {us:List Value},(∀ u∈us,u.cells.size=sz)→∀ n,(flat us).take (n*sz)=flat (us.take n)
 | [],_,n=>by simp [flat]
 | u::us,h,0=>by simp [flat]
 | u::us,h,n+1=>by
  have hu:u.cells.toList.length=sz:=by simpa using h u (by simp)
  rw [List.take_succ_cons,zCQ,zCQ,Nat.succ_mul,Nat.add_comm,List.take_append,List.take_of_length_le (by omega),hu]
  congr 1
  rw [show sz+n*sz-sz=n*sz by omega]
  exact zJi (fun u hu=>h u (by simp [hu])) n
theorem zBn {sz:Nat}:∀ {us:List Value},(∀ u∈us,u.cells.size=sz)→(flat us).length=us.length*sz
 | [],_=>by simp [flat]
 | u::us,h=>by
  have hu:u.cells.toList.length=sz:=by simpa using h u (by simp)
  rw [zCQ,List.length_append,hu,zBn (fun u hu=>h u (by simp [hu])),List.length_cons,Nat.succ_mul,Nat.add_comm]
theorem zIg {c:Array Value} {o sz m:Nat} {us:List Value} (hs:∀ u∈us,u.cells.size=sz) (hm:us.length=m) (h:seg c o (m*sz)=flat us) {lo n:Nat} (hn:lo+n≤m) :
  seg c (o+lo*sz) (n*sz)=flat ((us.drop lo).take n):=by
 have h1:seg c (o+lo*sz) (n*sz)=(((seg c o (m*sz)).drop (lo*sz)).take (n*sz)):=by
  apply List.ext_getElem?
  intro k
  simp only [seg,List.getElem?_take,List.getElem?_drop]
  by_cases hk:k<n*sz
  ·have:lo*sz+n*sz≤m*sz:=by rw [← Nat.add_mul];exact Nat.mul_le_mul_right _ hn
   rw [if_pos hk,if_pos hk,if_pos (by omega),Nat.add_assoc]
  ·rw [if_neg hk,if_neg hk]
 rw [h1,h,zJs hs,zJi (fun u hu=>hs u (List.mem_of_mem_drop hu))]
theorem zAZ.map_isAgg {us:List Value} {xs:List PV} (h:us.map zCf=xs.map PV.isAgg) (lo n:Nat):((us.drop lo).take n).map zCf=((xs.drop lo).take n).map PV.isAgg:=by
 rw [List.map_take,List.map_drop,h,List.map_take,List.map_drop]
section
variable {w:World} {Φ Φ':Nat→Prop} {rv:Nat→Value} {E E':Nat→PV}
theorem zBR {A:Al} {ps:List PV} {us:List Value} (h:zAZ w Φ A ps us []) (c n:Nat):zAZ w Φ A ((ps.drop c).take n) ((us.drop c).take n) []:=by
 have key:∀ (ps:List PV) (us:List Value) (c n:Nat),zAZ w Φ A ps us []→zAZ w Φ A ((ps.drop c).take n) ((us.drop c).take n) []:=by
  intro ps
  induction ps with
  | nil=>intro us c n h;rw [h.1];simp [zAZ]
  | cons p ps ih =>
   intro us c n h
   obtain ⟨v,vs,L1,L2,rfl,hL,h1,h2⟩:=h
   obtain ⟨rfl,rfl⟩:L1=[]∧L2=[]:=by simpa using hL.symm
   cases c with
   | succ c=>simpa using ih vs c n h2
   | zero =>
    cases n with
    | zero=>simp [zAZ]
    | succ n=>exact ⟨v,_,[],[],rfl,rfl,h1,by simpa using ih vs 0 n h2⟩
 exact key ps us c n h
theorem zC4 {a:PV} {v:Value} (hw:a.isWay=true) (h:zA2 w rv E a v):v.oneCell'=true:=by
 cases a<;>first | cases hw | skip
 ·obtain ⟨_,a,rfl,_⟩:=h;rfl
 ·obtain ⟨_,⟨a,c,rfl,_⟩,_⟩:=h;rfl
 ·obtain ⟨_,a,c,rfl,_⟩:=h;rfl
 ·obtain ⟨_,⟨b,rfl⟩,_⟩:=h;rfl
 ·exact h.elim
theorem zB7 {A:Al} (hA:∀ a v,a.isWay=true→A a v→v.oneCell'=true) {q:PV} {u:Value} {L:List Nat} (h:Rep w Φ A q u L) (hq:q.oneCell=true):u.oneCell'=true:=by
 cases q<;>first | cases hq | skip
 case int=>rw [h.1];rfl
 case bool=>rw [h.1];rfl
 case nilp=>rw [h.1];rfl
 case nilf=>rw [h.1];rfl
 case nilm=>rw [h.1];rfl
 case nn=>obtain ⟨_,a,n,rfl⟩:=h;rfl
 case nils=>rw [h.1];rfl
 case sl=>obtain ⟨_,⟨_,a,n,rfl,_⟩ | ⟨a,n,c,us,sz,rfl,_⟩⟩:=h<;>rfl
 case own=>obtain ⟨_,_,rfl⟩ | ⟨a,n,c,us,L',_,rfl,_⟩:=h<;>rfl
 case ref=>obtain ⟨_,a,c,u,rfl,_⟩:=h;rfl
 case box=>obtain ⟨a,c,u,L',_,rfl,_⟩:=h;rfl
 case map=>obtain ⟨_,b,e,rfl,_⟩:=h;rfl
 case omap=>obtain ⟨b,e,_,rfl,_⟩:=h;rfl
 case func=>obtain ⟨_,fs,cs,rfl,_⟩:=h;rfl
 all_goals exact hA _ _ rfl h.2
theorem zBC {v:Value} (h:v.oneCell'=true):v.cells=#[v]∧zCf v=false:=by
 cases v<;>first | exact ⟨rfl,rfl⟩ | cases h
theorem zBj {p:PV} (h:p.oneCell=true):p.cells=[p]∧p.isAgg=false:=by
 cases p<;>first | exact ⟨rfl,rfl⟩ | cases h
theorem zO4 {A A':Al} (hA1:∀ a v,a.isWay=true→A a v→v.oneCell'=true) (hΦ:∀ b,Φ b→Φ' b) (hA:∀ a v,a.isWay=true→A a v→A' a v) {x:PV} {xv:Value} {Lx:List Nat} (hx:Rep w Φ A x xv Lx) (hL:∀ b∈Lx,Φ' b) {i c:Nat} {sh:Option Nat} {v:Value} {a:Addr}
  (hv:v = .pointer (some a)) (ha:∀ a',zA3 xv x i c=some a'→a=a'):Rep w Φ' A' (zDB i c sh x) v []:=by
 simp only [zDB]
 cases hh:zA9 x with
 | none=>rfl
 | some xs =>
  simp only
  cases hi:xs[i]? with
  | none=>rfl
  | some y =>
   simp only
   obtain ⟨ux,row,ad,Ly,h1,h2,h3,h4,h5,h6,h7,h8,h9⟩:=zK2 hx hh hi
   have jL:=ha _ (h5 c)
   have hbel:∀ a v,a.isWay=true→zGF A x a v→A' a v:=fun a v hw h=>hA a v hw (zFW h)
   cases sh with
   | some m =>
    simp only
    by_cases yK:c+m≤y.cells.length
    ·rw [Nat.ble_eq_true_of_le yK]
     cases hya:y.isAgg with
     | false=>rfl
     | true =>
      simp only [Bool.and_self,cond_true]
      cases y<;>simp [PV.isAgg] at hya
      rename_i cs
      obtain ⟨vs,rfl,hr⟩:=h9
      have yx:=zBR (zDt hΦ cs _ Ly (fun b hb=>hL b (h4 b hb)) hr) c m
      have hO:=hr.length
      refine ⟨rfl,a,row,.agg ((vs.toList.drop c).take m).toArray,hv,by rw [jL];rfl,by rw [jL];exact hL _ h1,by rw [jL];exact h3.any,?_,⟨?_,rfl⟩,?_⟩
      ·rw [jL]
       simp only [zAs,PV.cells,zBk,Value.cells]
       have:=h6 c m yK
       simp only [PV.cells] at yK
       rw [show ((cs.drop c).take m).length=m by simp;omega,this];rfl
      ·simp only [Value.cells,PV.cells,zBk];simp at hO ⊢;omega
      ·refine ⟨_,rfl,?_⟩
       have e:zAo ((cs.drop c).take m)=((zAo cs).drop c).take m:=by rw [zCC,zCC,List.map_take,List.map_drop]
       simp only [PV.cells] 
       rw [e]
       exact yx.mono zDo.refl hbel (by simp)
    ·have:Nat.ble (c+m) y.cells.length=false:=by
      cases hb:Nat.ble (c+m) y.cells.length with
      | false=>rfl
      | true=>exact absurd (Nat.le_of_ble_eq_true hb) yK
     rw [this];rfl
   | none =>
    simp only
    cases hc:y.cells[c]? with
    | none=>rfl
    | some q =>
     simp only
     obtain ⟨u,La,Lu,Lb,hu,v4,ke,_,_⟩:=h9.cell hc h7
     have yP:c<y.cells.length:=(List.getElem?_eq_some_iff.1 hc).1
     cases kf:q.oneCell with
     | false=>rfl
     | true =>
      simp only [cond_true]
      have kW:=zBC (zB7 (fun a v hw h=>hA1 a v hw (zFW h)) ke kf)
      have uC:=zBj kf
      refine ⟨rfl,a,row,u,hv,by rw [jL];rfl,by rw [jL];exact hL _ h1,by rw [jL];exact h3.any,?_,⟨?_,?_⟩,?_⟩
      ·rw [jL,zC6,uC.1,kW.1]
       have:=h6 c 1 (by omega)
       simp only [zAs,List.length_singleton]
       rw [this]
       have:c<ux.cells.toList.length:=by simpa [h8] using yP
       rw [List.drop_eq_getElem_cons this]
       have:ux.cells.toList[c]=u:=by rw [List.getElem?_eq_getElem this] at hu;simpa using hu
       simp [this]
      ·rw [zC6,uC.1,kW.1];rfl
      ·rw [zC5,uC.2,kW.2]
      ·exact (zD2 hΦ q u Lu (fun b hb=>hL b (h4 b (by rw [v4];simp [hb]))) ke).mono zDo.refl hbel (by simp)
end
theorem zMi {u u':Value} (h:u.cells.toList=u'.cells.toList) (ha:zCf u=zCf u'):u=u':=by
 have hc:u.cells=u'.cells:=by
  have:=congrArg List.toArray h
  simpa using this
 cases hu:zCf u with
 | true =>
  rw [hu] at ha
  cases u<;>simp [zCf] at hu
  cases u'<;>simp [zCf] at ha
  exact congrArg Value.agg hc
 | false =>
  rw [hu] at ha
  have h1:u.cells=#[u]:=by cases u<;>first | rfl | simp [zCf] at hu
  have h2:u'.cells=#[u']:=by cases u'<;>first | rfl | simp [zCf] at ha
  rw [h1,h2] at hc
  simpa using hc
theorem zOH {sz:Nat}:∀ {us us':List Value},(∀ u∈us,u.cells.size=sz)→(∀ u∈us',u.cells.size=sz)→us.map zCf=us'.map zCf→flat us=flat us'→us=us'
 | [],[],_,_,_,_=>rfl
 | [],_::_,_,_,h,_=>by simp at h
 | _::_,[],_,_,h,_=>by simp at h
 | u :: us,u'::us',h1,h2,ha,hf=>by
  simp only [List.map_cons,List.cons.injEq] at ha
  rw [zCQ,zCQ] at hf
  have hl:u.cells.toList.length=u'.cells.toList.length:=by
   have:=h1 u (by simp);have:=h2 u' (by simp);simp;omega
  obtain ⟨h3,h4⟩:=List.append_inj hf hl
  rw [zMi h3 ha.1,zOH (fun u hu=>h1 u (by simp [hu])) (fun u hu=>h2 u (by simp [hu])) ha.2 h4]
section
variable {w:World} {Φ Φ':Nat→Prop}
theorem zFf.uniq {b:Nat} {c c':Array Value} (h:zFf w b c) (h':zFf w b c'):c=c':=by
 obtain ⟨e,h⟩:=h;obtain ⟨e',h'⟩:=h'
 rw [h] at h';cases h';rfl
mutual
theorem Rep.uniq {A A':Al}:∀ (p:PV) (v:Value) (L L':List Nat),Rep w Φ A p v L→Rep w Φ' A' p v L'→L=L'
 | .own sz xs,v,L,L',h,h'=>by
  obtain ⟨h1,h2,h3⟩ | ⟨a,n,c,us,M,rfl,h1,h2,h3,h4,h5,h6,h7,h8,h9⟩:=h
  ·obtain ⟨_,g2,_⟩ | ⟨a,n,c,us,M,rfl,g1,_⟩:=h'
   ·rw [h2,g2]
   ·rw [h3] at g1;cases g1
  ·obtain ⟨_,_,g3⟩ | ⟨a',n',c',us',M',rfl,g1,g2,g3,g4,g5,g6,g7,g8,g9⟩:=h'
   ·rw [h1] at g3;cases g3
   ·rw [h1] at g1;cases g1
    have:=h4.uniq g4;subst this
    have:us=us':=zOH h7.1 g7.1 (h7.2.trans g7.2.symm) (h8.symm.trans g8)
    subst this
    rw [zAZ.uniq xs us M M' h9 g9]
 | .box q,v,L,L',h,h'=>by
  obtain ⟨a,c,u,M,rfl,h1,h2,h4,h5,h6,h7⟩:=h
  obtain ⟨a',c',u',M',rfl,g1,g2,g4,g5,g6,g7⟩:=h'
  rw [h1] at g1;cases g1
  have:=h4.uniq g4;subst this
  have:u=u':=zMi (h5.symm.trans g5) (h6.2.trans g6.2.symm)
  subst this
  rw [Rep.uniq q u M M' h7 g7]
 | .omap es,v,L,L',h,h'=>by
  obtain ⟨b,ents,rfl,h1,h3,h4⟩:=h
  obtain ⟨b',ents',rfl,g1,g3,g4⟩:=h'
  rw [h1] at g1;cases g1;rfl
 | .agg cs,v,L,L',h,h'=>by
  obtain ⟨vs,rfl,h⟩:=h
  obtain ⟨vs',g1,h'⟩:=h'
  cases g1;exact zAZ.uniq cs _ L L' h h'
 | .tup cs,v,L,L',h,h'=>by
  obtain ⟨vs,rfl,h⟩:=h
  obtain ⟨vs',g1,h'⟩:=h'
  cases g1;exact zAZ.uniq cs _ L L' h h'
 | .lock q,v,L,L',h,h'=>Rep.uniq q v L L' h h'
 | .bad,_,_,_,h,h'=>by rw [show _=_ from h,show _=_ from h']
 | .und,_,_,_,h,h'=>by rw [h.2,h'.2]
 | .int ..,_,_,_,h,h'=>by rw [h.2,h'.2]
 | .bool _,_,_,_,h,h'=>by rw [h.2,h'.2]
 | .nilp,_,_,_,h,h'=>by rw [h.2,h'.2]
 | .nilf,_,_,_,h,h'=>by rw [h.2,h'.2]
 | .nilm,_,_,_,h,h'=>by rw [h.2,h'.2]
 | .nn,_,_,_,h,h'=>by rw [h.1,h'.1]
 | .nils _,_,_,_,h,h'=>by rw [h.2,h'.2]
 | .sl xs,_,_,_,h,h'=>by rw [h.1,h'.1]
 | .ref q,_,_,_,h,h'=>by rw [h.1,h'.1]
 | .map es,_,_,_,h,h'=>by rw [h.1,h'.1]
 | .func _ _ _,_,_,_,h,h'=>by rw [h.1,h'.1]
 | .addr ..,_,_,_,h,h'=>by rw [h.1,h'.1]
 | .bor ..,_,_,_,h,h'=>by rw [h.1,h'.1]
 | .bsl ..,_,_,_,h,h'=>by rw [h.1,h'.1]
 | .bmap ..,_,_,_,h,h'=>by rw [h.1,h'.1]
 | .yld _,_,_,_,h,h'=>by rw [h.1,h'.1]
 | .log ..,_,_,_,h,h'=>by rw [h.1,h'.1]
theorem zAZ.uniq {A A':Al}:∀ (ps:List PV) (vs:List Value) (L L':List Nat),zAZ w Φ A ps vs L→zAZ w Φ' A' ps vs L'→L=L'
 | [],_,_,_,h,h'=>by rw [h.2,h'.2]
 | p::ps,vs,L,L',h,h'=>by
  obtain ⟨v,vs',L1,L2,rfl,rfl,h1,h2⟩:=h
  obtain ⟨v',vs'',M1,M2,g0,rfl,g1,g2⟩:=h'
  cases g0
  rw [Rep.uniq p v L1 M1 h1 g1,zAZ.uniq ps vs' L2 M2 h2 g2]
end
end
theorem zHS {w:World} {Φ Φ':Nat→Prop} {A A':Al} (hΦ:∀ b,Φ b→Φ' b) {x:PV} {xv:Value} {Lx:List Nat} (hx:Rep w Φ A x xv Lx) (hL:∀ b∈Lx,Φ' b) {z lo n:Nat} {v:Value}
  (ha:∀ sz xs,x = .own sz xs→z=sz∧zBV v xv sz lo n):Rep w Φ' A' (zDi lo n x) v []:=by
 cases x<;>try rfl
 rename_i sz xs
 simp only [zDi]
 by_cases yK:lo+n≤xs.length
 ·rw [Nat.ble_eq_true_of_le yK];simp only [cond_true]
  obtain ⟨_,hs⟩:=ha sz xs rfl
  obtain ⟨h1,h2,h3⟩ | ⟨a,m,c,us,M,rfl,h1,h2,h3,h4,h5,h6,h7,h8,h9⟩:=hx
  ·subst h1;subst h3
   have hn:n=0:=by simp at yK;omega
   subst hn
   refine ⟨rfl,.inl ⟨by simp [zAo],none,0,hs.1,fun _=>rfl⟩⟩
  ·subst h1
   obtain ⟨rfl,yQ⟩:=hs
   have yz:us.length=xs.length:=by have:=congrArg List.length h7.2;simpa using this
   by_cases hn:n=0
   ·subst hn;exact ⟨rfl,.inl ⟨by simp [zAo],_,_,rfl,fun h=>by cases h⟩⟩
   ·refine ⟨rfl,.inr ⟨zAs a (lo*sz),m-lo,c,(us.drop lo).take n,sz,?_,rfl,?_,hL _ (by simp [zAs]),h4.any,?_,⟨?_,?_⟩,?_,?_⟩⟩
    ·rw [zBk,show ((xs.drop lo).take n).length=n by simp;omega]
    ·rw [zBk];simp;omega
    ·intro y hy
     rw [zCC] at hy
     obtain ⟨y,ug,rfl⟩:=List.mem_map.1 hy
     rw [zC6];exact h6 y (List.mem_of_mem_drop (List.mem_of_mem_take ug))
    ·intro u hu;exact h7.1 u (List.mem_of_mem_drop (List.mem_of_mem_take hu))
    ·rw [zGN];exact zAZ.map_isAgg h7.2 lo n
    ·rw [zBk,show ((xs.drop lo).take n).length=n by simp;omega]
     exact zIg h7.1 yz h8 (by omega)
    ·have e:zAo ((xs.drop lo).take n)=((zAo xs).drop lo).take n:=by rw [zCC,zCC,List.map_take,List.map_drop]
     rw [e]
     exact zBR (zDt hΦ xs us M (fun b hb=>hL b (by simp [hb])) h9) lo n
 ·have:Nat.ble (lo+n) xs.length=false:=by
   cases hb:Nat.ble (lo+n) xs.length with
   | false=>rfl
   | true=>exact absurd (Nat.le_of_ble_eq_true hb) yK
  rw [this];rfl
theorem zHp {w:World} {Φ Φ':Nat→Prop} {A A':Al} (hΦ:∀ b,Φ b→Φ' b) {x:PV} {xv:Value} {Lx:List Nat} (hx:Rep w Φ A x xv Lx) (hL:∀ b∈Lx,Φ' b) {v:Value}
  (ha:∀ es,x = .omap es→v=xv):Rep w Φ' A' (zEL x) v []:=by
 cases x<;>try rfl
 rename_i es
 obtain ⟨b,ents,rfl,h1,h3,h4⟩:=hx
 refine ⟨rfl,b,ents,(ha es rfl).trans h1,hL _ (by simp),h3,zEq.same (fun b hb=>⟨hΦ b hb,rfl⟩) es _ _ h4⟩
section
variable {w:World} {Φ Φ':Nat→Prop}
mutual
theorem Rep.ways {A A':Al}:∀ (p:PV) (v:Value) (L:List Nat),(∀ a v,a.isWay=true→(∀ x∈a.ways,x∈p.ways)→A a v→A' a v)→Rep w Φ A p v L→Rep w Φ A' p v L
 | .bad,_,_,_,h=>h
 | .und,_,_,_,h=>h
 | .int ..,_,_,_,h=>h
 | .bool _,_,_,_,h=>h
 | .nilp,_,_,_,h=>h
 | .nilf,_,_,_,h=>h
 | .nilm,_,_,_,h=>h
 | .nn,_,_,_,h=>h
 | .nils _,_,_,_,h=>h
 | .agg cs,v,L,hA,h=>by
  obtain ⟨vs,rfl,h⟩:=h
  exact ⟨vs,rfl,zAZ.ways cs _ L (fun a v hw hx ha=>hA a v hw hx ha) h⟩
 | .tup cs,v,L,hA,h=>by
  obtain ⟨vs,rfl,h⟩:=h
  exact ⟨vs,rfl,zAZ.ways cs _ L (fun a v hw hx ha=>hA a v hw hx ha) h⟩
 | .sl xs,_,_,_,h=>h
 | .own sz xs,_,_,_,h=>h
 | .ref q,v,L,hA,h=>by
  obtain ⟨rfl,a,c,u,h1,h2,h3,h4,h5,h6,h7⟩:=h
  exact ⟨rfl,a,c,u,h1,h2,h3,h4,h5,h6,Rep.ways q u [] (fun a v hw hx ha=>hA a v hw hx ha) h7⟩
 | .box q,v,L,hA,h=>by
  obtain ⟨a,c,u,L',h0,h1,h2,h4,h5,h6,h7⟩:=h
  exact ⟨a,c,u,L',h0,h1,h2,h4,h5,h6,Rep.ways q u L' (fun a v hw hx ha=>hA a v hw hx ha) h7⟩
 | .map es,_,_,_,h=>h
 | .omap es,_,_,_,h=>h
 | .func g a b,v,L,hA,h=>by
  obtain ⟨rfl,fs,cs,h1,h2,h3⟩:=h
  exact ⟨rfl,fs,cs,h1,zAZ.ways a _ [] (fun x v hw hx ha=>hA x v hw (fun y hy=>List.mem_append.2 (.inl (hx y hy))) ha) h2,zAZ.ways b _ [] (fun x v hw hx ha=>hA x v hw (fun y hy=>List.mem_append.2 (.inr (hx y hy))) ha) h3⟩
 | .addr ..,v,L,hA,h=>⟨h.1,hA _ _ rfl (fun _ h=>h) h.2⟩
 | .bor ..,v,L,hA,h=>⟨h.1,hA _ _ rfl (fun _ h=>h) h.2⟩
 | .bsl ..,v,L,hA,h=>⟨h.1,hA _ _ rfl (fun _ h=>h) h.2⟩
 | .bmap ..,v,L,hA,h=>⟨h.1,hA _ _ rfl (fun _ h=>h) h.2⟩
 | .lock q,v,L,hA,h=>Rep.ways q v L (fun a v hw hx ha=>hA a v hw hx ha) h
 | .yld _,v,L,hA,h=>h
 | .log ..,v,L,hA,h=>⟨h.1,hA _ _ rfl (fun _ h=>h) h.2⟩
theorem zAZ.ways {A A':Al}:∀ (ps:List PV) (vs:List Value) (L:List Nat),(∀ a v,a.isWay=true→(∀ x∈a.ways,x∈zBy ps)→A a v→A' a v)→zAZ w Φ A ps vs L→zAZ w Φ A' ps vs L
 | [],_,_,_,h=>h
 | p::ps,vs,L,hA,h=>by
  obtain ⟨v,vs',L1,L2,h0,h1,h2,h3⟩:=h
  exact ⟨v,vs',L1,L2,h0,h1,Rep.ways p v L1 (fun a v hw hx ha=>hA a v hw (fun y hy=>List.mem_append.2 (.inl (hx y hy))) ha) h2,zAZ.ways ps vs' L2 (fun a v hw hx ha=>hA a v hw (fun y hy=>List.mem_append.2 (.inr (hx y hy))) ha) h3⟩
end
mutual
theorem zGv:∀ p:PV,∀ x∈(zA0 p).ways,x∈p.ways
 | .agg cs,x,h=>zG1 cs x h
 | .box q,x,h=>zGv q x h
 | .own ..,x,h=>by cases h
 | .omap _,x,h=>by cases h
 | .tup _,x,h=>by cases h
 | .lock _,x,h=>by cases h
 | .bad,_,h=>h
 | .und,_,h=>h
 | .int ..,_,h=>h
 | .bool _,_,h=>h
 | .nilp,_,h=>h
 | .nilf,_,h=>h
 | .nilm,_,h=>h
 | .nn,_,h=>h
 | .nils _,_,h=>h
 | .sl _,_,h=>h
 | .ref _,_,h=>h
 | .map _,_,h=>h
 | .func ..,_,h=>h
 | .addr ..,_,h=>h
 | .bor ..,_,h=>h
 | .bsl ..,_,h=>h
 | .bmap ..,_,h=>h
 | .yld _,_,h=>h
 | .log ..,_,h=>h
theorem zG1:∀ ps:List PV,∀ x∈zBy (zAo ps),x∈zBy ps
 | [],_,h=>h
 | p::ps,x,h=>by
  simp only [zAo,zBy,List.mem_append] at h ⊢
  rcases h with h | h
  ·exact .inl (zGv p x h)
  ·exact .inr (zG1 ps x h)
end
theorem zJW (p:PV):(zA0 p).oneCell=p.oneCell:=by cases p<;>rfl
theorem zDV (ag:Bool) (sz:Nat):∀ (m:Nat) (cs:List PV),(zCk ag sz m cs).length=m
 | 0,_=>rfl
 | m+1,cs=>by simp [zCk,zDV ag sz m]
theorem zFZ {A:Al} (hA:∀ a v,a.isWay=true→A a v→v.oneCell'=true) {ag:Bool} {sz:Nat}:∀ (m:Nat) (ps:List PV) (us:List Value),ps.length=m*sz→(ag=false→sz=1∧∀ q∈ps,q.oneCell=true)→zAZ w Φ A ps us [] →
  ∃ us',zAZ w Φ A (zCk ag sz m ps) us' []∧flat us'=us∧(∀ u∈us',u.cells.size=sz)∧us'.map zCf=(zCk ag sz m ps).map PV.isAgg∧∀ x∈zCk ag sz m ps,x.cells.length=sz
 | 0,ps,us,hl,_,h=>by
  have:ps=[]:=List.eq_nil_of_length_eq_zero (by simpa using hl)
  subst this
  exact ⟨[],⟨rfl,rfl⟩,by rw [h.1];rfl,by simp,rfl,by simp [zCk]⟩
 | m + 1,ps,us,hl,ho,h=>by
  have yz:=h.length
  rw [Nat.succ_mul] at hl
  have h1:zAZ w Φ A (ps.take sz) (us.take sz) []:=by simpa using zBR h 0 sz
  have h2:zAZ w Φ A (ps.drop sz) (us.drop sz) []:=by
   have:=zBR h sz (ps.length-sz)
   rwa [List.take_of_length_le (by simp),List.take_of_length_le (by simp;omega)] at this
  obtain ⟨us',h3,h4,h5,h6,h7⟩:=zFZ hA (ag:=ag) (sz:=sz) m (ps.drop sz) (us.drop sz) (by simp;omega) (fun j6=>⟨(ho j6).1,fun q hq=>(ho j6).2 q (List.mem_of_mem_drop hq)⟩) h2
  cases ag with
  | true =>
   refine ⟨.agg (us.take sz).toArray::us',⟨_,us',[],[],rfl,rfl,⟨_,rfl,by simpa using h1⟩,h3⟩,?_,?_,?_,?_⟩
   ·rw [zCQ,h4];simp [Value.cells]
   ·intro u hu
    rcases List.mem_cons.1 hu with rfl | hu
    ·simp [Value.cells];omega
    ·exact h5 u hu
   ·simp only [zCk,cond_true,List.map_cons,h6];rfl
   ·intro x hx
    simp only [zCk,cond_true] at hx
    rcases List.mem_cons.1 hx with rfl | hx
    ·simp [PV.cells];omega
    ·exact h7 x hx
  | false =>
   obtain ⟨uh,yI⟩:=ho rfl
   subst uh
   match ps,us,h,yI,hl with
   | p :: ps,us,h,yI,hl =>
    obtain ⟨v,vs',L1,L2,rfl,hL,g1,g2⟩:=h
    obtain ⟨rfl,rfl⟩:L1=[]∧L2=[]:=by simpa using hL.symm
    have hp:=yI p (by simp)
    have k1:=zBC (zB7 hA g1 hp)
    have k2:=zBj hp
    refine ⟨v::us',⟨v,us',[],[],rfl,rfl,g1,h3⟩,?_,?_,?_,?_⟩
    ·rw [zCQ,h4,k1.1];simp
    ·intro u hu
     rcases List.mem_cons.1 hu with rfl | hu
     ·rw [k1.1];rfl
     ·exact h5 u hu
    ·simp only [zCk,cond_false,List.headD_cons,List.map_cons,k1.2,k2.2]
     congr 1
    ·intro x hx
     simp only [zCk,cond_false,List.headD_cons] at hx
     rcases List.mem_cons.1 hx with rfl | hx
     ·rw [k2.1];rfl
     ·exact h7 x hx
end
section
variable {w:World} {Φ Φ':Nat→Prop} {rv:Nat→Value} {E E':Nat→PV} {A:Al}
theorem zGq {ps:List PV} {us:List Value} {Lx:List Nat} (h:zAZ w Φ A ps us Lx) (c n:Nat):∃ Ly,(∀ b∈Ly,b∈Lx)∧zAZ w Φ A ((ps.drop c).take n) ((us.drop c).take n) Ly:=by
 induction ps generalizing us Lx c n with
 | nil=>rw [h.1];exact ⟨[],by simp,by simp [zAZ]⟩
 | cons p ps ih =>
  obtain ⟨v,vs',L1,L2,rfl,rfl,g1,g2⟩:=h
  cases c with
  | succ c=>obtain ⟨Ly,h1,h2⟩:=ih g2 c n;exact ⟨Ly,fun b hb=>by simp [h1 b hb],by simpa using h2⟩
  | zero =>
   cases n with
   | zero=>exact ⟨[],by simp,by simp [zAZ]⟩
   | succ n =>
    obtain ⟨Ly,h1,h2⟩:=ih g2 0 n
    exact ⟨L1++Ly,fun b hb=>by rcases List.mem_append.1 hb with h | h;simp [h];simp [h1 b h],v,_,L1,Ly,rfl,rfl,g1,by simpa using h2⟩
end
section
variable {w:World} {Φ Φ':Nat→Prop} {rv:Nat→Value} {E E':Nat→PV}
theorem zJn {a:PV} {v:Value} (hw:a.isWay=true) (h:zA2 w rv E a v):a.ways≠[]:=by
 cases a<;>first | (cases hw;done) | exact h.elim | simp [PV.ways]
theorem zHd {A A':Al} (hA1:∀ a v,a.isWay=true→A a v→a.ways≠[]) (hΦ:∀ b,Φ b→Φ' b) {x:PV} {xv:Value} {Li:List Nat} (v5:Rep w Φ A x xv Li) (j1:∀ b∈Li,Φ' b) {i c sz m cap:Nat} {ag:Bool} {v:Value} {ad:Addr}
  (hv:v = .slice (some ad) m cap) (yQ:m≤cap) (hn:∀ a',zA3 xv x i c=some a'→ad=a'):Rep w Φ' A' (zCp i c sz ag m x) v []:=by
 simp only [zCp]
 cases hh:zA9 x with
 | none=>rfl
 | some xs =>
  simp only
  cases hi:xs[i]? with
  | none=>rfl
  | some y =>
   simp only
   cases hc:(zCg ag sz m ((y.cells.drop c).take (m*sz))&&(zBy y.cells).isEmpty) with
   | false=>rfl
   | true =>
    simp only [cond_true]
    simp only [Bool.and_eq_true,zCg] at hc
    obtain ⟨⟨yP,ql⟩,hcw⟩:=hc
    have yP:=Nat.eq_of_beq_eq_true yP
    obtain ⟨ux,row,ad0,Lx,k1,k2,k3,k4,k5,k6,k7,k8,k9⟩:=zK2 v5 hh hi
    have jL:=hn _ (k5 c)
    subst jL
    have k9':=k9.mono (A':=A) zDo.refl (fun _ _ _ h=>zFW h) (fun _ _=>rfl)
    have zA9:=k9'.cellsAll k7
    have wX:zAZ w Φ zCn y.cells ux.cells.toList Lx:=zA9.ways _ _ _ fun a v hw hx ha=>by
     have h0:zBy y.cells=[]:=by simpa using hcw
     rw [h0] at hx
     have h1:=hA1 a v hw ha
     cases ui:a.ways with
     | nil=>exact absurd ui h1
     | cons z zs=>have:=hx z (by rw [ui];simp);cases this
    obtain ⟨Ly,hly,wY⟩:=zGq wX c (m*sz)
    have qE:=zDt hΦ _ _ Ly (fun b hb=>j1 b (k4 b (hly b hb))) wY
    obtain ⟨us',q1,q2,q3,q4,q5⟩:=zFZ (ag:=ag) (sz:=sz) (fun a v _ h=>h.elim) m _ _ (by rw [zBk];exact yP) (fun j6=>by
     simp only [j6,Bool.false_or,Bool.and_eq_true] at ql
     refine ⟨Nat.eq_of_beq_eq_true ql.1,fun q hq=>?_⟩
     rw [zCC] at hq
     obtain ⟨q0,hq0,rfl⟩:=List.mem_map.1 hq
     rw [zJW];exact List.all_eq_true.1 ql.2 q0 hq0) qE
    have qm:(zCk ag sz m (zAo ((y.cells.drop c).take (m*sz)))).length=m:=zDV _ _ _ _
    by_cases hm:m=0
    ·subst hm;exact ⟨rfl,.inl ⟨rfl,_,_,hv,fun h=>by cases h⟩⟩
    ·refine ⟨rfl,.inr ⟨zAs ad0 c,cap,row,us',sz,by rw [qm];exact hv,rfl,by rw [qm];exact yQ,j1 _ k1,k3.any,q5,⟨q3,q4⟩,?_,q1⟩⟩
     rw [qm,q2]
     by_cases uj:m*sz=0
     ·rw [uj];simp [seg]
     ·have:c+m*sz≤y.cells.length:=by simp at yP;omega
      exact k6 c (m*sz) this
end
theorem zIf (r:Nat) (pre:zAS) (q:PV):Tame (inl r pre q):=by
 have h1 : ∀ i c sh x,(zDB i c sh x).isAgg=false∧(zDB i c sh x).dull=true:=by
  intro i c sh x
  simp only [zDB]
  split
  ·split
   ·split
    ·cases (Nat.ble _ _&&PV.isAgg _)<;>exact ⟨rfl,rfl⟩
    ·split
     ·rename_i q _;cases q.oneCell<;>exact ⟨rfl,rfl⟩
     ·exact ⟨rfl,rfl⟩
   ·exact ⟨rfl,rfl⟩
  ·exact ⟨rfl,rfl⟩
 have h2:∀ lo n x,(zDi lo n x).isAgg=false∧(zDi lo n x).dull=true:=by
  intro lo n x
  cases x<;>try exact ⟨rfl,rfl⟩
  simp only [zDi];cases Nat.ble _ _<;>exact ⟨rfl,rfl⟩
 have h5:∀ i c sz ag m x,(zCp i c sz ag m x).isAgg=false∧(zCp i c sz ag m x).dull=true:=by
  intro i c sz ag m x
  simp only [zCp]
  split
  ·split
   ·cases (zCg ag sz m _&&_)<;>exact ⟨rfl,rfl⟩
   ·exact ⟨rfl,rfl⟩
  ·exact ⟨rfl,rfl⟩
 have h3:∀ x,(zEL x).isAgg=false∧(zEL x).dull=true:=by intro x;cases x<;>exact ⟨rfl,rfl⟩
 have h4:∀ (o:Option PV) (f:PV→PV),(∀ x,(f x).isAgg=false∧(f x).dull=true)→(zHV o f).isAgg=false∧(zHV o f).dull=true:=by
  intro o f hf;cases o with
  | none=>exact ⟨rfl,rfl⟩
  | some x=>exact hf x
 constructor
 ·intro p
  cases p<;>try rfl
  all_goals
   rename_i a b
   simp only [inl]
   cases zAQ r pre _ _<;>first | rfl | exact (h4 _ _ (h1 _ _ _)).1 | exact (h4 _ _ (h2 _ _)).1 | exact (h4 _ _ h3).1 | exact (h4 _ _ (h5 _ _ _ _ _)).1
 ·intro p hp
  cases p<;>first | (cases hp;done) | skip
  all_goals
   first | rfl | skip
  all_goals
   simp only [inl]
   cases zAQ r pre _ _<;>first | rfl | exact (h4 _ _ (h1 _ _ _)).2 | exact (h4 _ _ (h2 _ _)).2 | exact (h4 _ _ h3).2 | exact (h4 _ _ (h5 _ _ _ _ _)).2
theorem zBG {w:World} {Φ:Nat→Prop} {A:Al} {p:PV} {v:Value} {L:List Nat} (h:Rep w Φ A p v L) {pre:zAS} {q:PV} (hq:zAC p pre=some q) :
  ∃ nv Li,zAU w v p pre=some (nv,q)∧(∀ b∈Li,b∈L)∧Rep w Φ (zIk A p pre) q nv Li:=by
 obtain ⟨nv,La,Li,Lb,h1,h2,h3,_⟩:=Rep.zip pre h hq
 exact ⟨nv,Li,h1,fun b hb=>by rw [h2];simp [hb],h3⟩
theorem zD6 {r r':Nat} {pre q:zAS}:zAQ r pre r' q=true↔r'=r∧∃ rest,q=pre++rest:=by
 simp only [zAQ,Bool.and_eq_true,List.isPrefixOf_iff_prefix]
 constructor
 ·rintro ⟨h1,rest,h2⟩;exact ⟨Nat.eq_of_beq_eq_true h1,rest,h2.symm⟩
 ·rintro ⟨rfl,rest,h2⟩;exact ⟨Nat.beq_refl _,rest,h2.symm⟩
section
variable {w w0:World} {U Φ0 Φ:Nat→Prop} {rv:Nat→Value} {E:Nat→PV} {L:Nat→List Nat}
theorem Conf.ice (h:Conf w0 U Φ0 w Φ rv E L) (M:Nat→Bool) {r:Nat} (hr:r<zAb) {pre:zAS} {q root':PV} (jT:(E r).unlock=E r) (hn:zAC (E r) pre=some q)
  (hm:zAv (fun _=>some (zA0 q)) (E r) pre=some root') (yG:root'.unlock=root') :
  ∃ nv Li L',zAU w (rv r) (E r) pre=some (nv,q)∧Rep w Φ (zIk (zA2 w rv E) (E r) pre) q nv Li∧(∀ s,s≠r→L' s=L s) ∧
   Conf w0 U Φ0 w (fun b=>Φ b∨b∈Li) rv (fun s=>if s<zAb∨M s=true then (if s=r then root' else E s).mapW (inl r pre q) else E s) L':=by
 obtain ⟨nv,La,Li,Lb,ud,hL,hI,v3,uI⟩:=Rep.zip pre (h.rep r) hn
 have hΦ:∀ b,Φ b→Φ b∨b∈Li:=fun b hb => .inl hb
 have uk:=zIf r pre q
 have yY:=h.nodup r
 rw [hL] at yY
 simp only [List.nodup_append] at yY
 have vD:∀ b∈Li,b∉La++Lb:=by
  intro b hb jS
  rcases List.mem_append.1 jS with h2 | h2
  ·exact yY.1.2.2 b h2 b hb rfl
  ·exact yY.2.2 b (by simp [hb]) b h2 rfl
 have hK:∀ a u,zA2 w rv E a u→zA2 w rv (fun s=>if s<zAb∨M s=true then (if s=r then root' else E s).mapW (inl r pre q) else E s) a u:=by
  intro a u ha
  have yL:=zCX ha
  refine ha.mono fun nv2 np2 j5 hh=>?_
  simp only [yL,true_or,if_true] at j5
  rw [zDr uk] at j5
  obtain ⟨np1,vV,qF⟩:=zCV uk j5 hh
  by_cases jz:(zA4 a).1=r
  ·rw [jz] at vV ⊢
   simp only [if_true,yG] at vV
   rcases uI w (zA0 q) root' (fun _ _=>rfl) (fun _=>zC5 q) hm _ nv2 np1 vV (zDF qF) with ⟨rest,_,h2⟩ | ⟨np0,h1,h2⟩
   ·have:=zH5 h2
    rw [zDF qF] at this;cases this
   ·rw [jT];exact ⟨np0,h1,h2.trans qF⟩
  ·simp only [jz,if_false] at vV
   exact ⟨np1,vV,qF⟩
 have hw1:∀ a v,a.isWay=true→zIk (zA2 w rv E) (E r) pre a v→zA2 w rv (fun s=>if s<zAb∨M s=true then (if s=r then root' else E s).mapW (inl r pre q) else E s) a v:=fun a v _ ha=>hK a v (zEB ha)
 have hA : ∀ a u,a.isWay=true→zA2 w rv E a u→Rep w (fun b=>Φ b∨b∈Li) (zA2 w rv (fun s=>if s<zAb∨M s=true then (if s=r then root' else E s).mapW (inl r pre q) else E s)) (inl r pre q a) u []:=by
  intro a u uf ha
  have node:∀ rest x,zAC q rest=some x→∃ xv Lx,zAU w (rv r) (E r).unlock (pre++rest)=some (xv,x)∧(∀ b∈Lx,b∈Li)∧Rep w Φ (zIk (zIk (zA2 w rv E) (E r) pre) q rest) x xv Lx:=by
   intro rest x hx
   obtain ⟨xv,Lx,h1,h2,h3⟩:=zBG hI hx
   exact ⟨xv,Lx,by rw [jT,zDa,ud];exact h1,h2,h3⟩
  have ho1:∀ rest a v,a.isWay=true→zIk (zIk (zA2 w rv E) (E r) pre) q rest a v→v.oneCell'=true:=fun rest a v hw h=>zC4 hw (zEB (zEB h))
  cases a<;>first | (cases uf;done) | skip
  case addr r' p i c sh =>
   simp only [inl]
   cases hu:zAQ r pre r' p with
   | false=>exact ⟨rfl,hK _ _ ha⟩
   | true =>
    obtain ⟨rfl,rest,rfl⟩:=zD6.1 hu
    simp only [cond_true,List.drop_left]
    cases hg:zAC q rest with
    | none=>rfl
    | some x =>
     obtain ⟨xv,Lx,h1,h2,h3⟩:=node rest x hg
     obtain ⟨_,a',h4,h5,h6⟩:=ha
     exact zO4 (ho1 rest) hΦ (fun a v hw h=>hw1 a v hw (zEB h)) h3 (fun b hb => .inr (h2 b hb)) h4 fun a'' qn=>h6 xv x h1 a'' qn
  case bor r' p z lo n =>
   simp only [inl]
   cases hu:zAQ r pre r' p with
   | false=>exact ⟨rfl,hK _ _ ha⟩
   | true =>
    obtain ⟨rfl,rest,rfl⟩:=zD6.1 hu
    simp only [cond_true,List.drop_left]
    cases hg:zAC q rest with
    | none=>rfl
    | some x =>
     obtain ⟨xv,Lx,h1,h2,h3⟩:=node rest x hg
     obtain ⟨_,_,h6⟩:=ha
     exact zHS hΦ h3 (fun b hb => .inr (h2 b hb)) fun sz xs hx=>by
      subst hx
      obtain ⟨sz',xs',h7,h8,h9⟩:=h6 xv _ h1 rfl
      cases h7;exact ⟨h8,h9⟩
  case bsl r' p i c sz ag n =>
   simp only [inl]
   cases hu:zAQ r pre r' p with
   | false=>exact ⟨rfl,hK _ _ ha⟩
   | true =>
    obtain ⟨rfl,rest,rfl⟩:=zD6.1 hu
    simp only [cond_true,List.drop_left]
    cases hg:zAC q rest with
    | none=>rfl
    | some x =>
     obtain ⟨xv,Lx,h1,h2,h3⟩:=node rest x hg
     obtain ⟨_,a',cap,h4,yQ,h5,h6⟩:=ha
     exact zHd (fun a v hw h=>zJn hw (zEB (zEB h))) hΦ h3 (fun b hb => .inr (h2 b hb)) h4 yQ fun a'' qn=>h6 xv x h1 a'' qn
  case bmap r' p =>
   simp only [inl]
   cases hu:zAQ r pre r' p with
   | false=>exact ⟨rfl,hK _ _ ha⟩
   | true =>
    obtain ⟨rfl,rest,rfl⟩:=zD6.1 hu
    simp only [cond_true,List.drop_left]
    cases hg:zAC q rest with
    | none=>rfl
    | some x =>
     obtain ⟨xv,Lx,h1,h2,h3⟩:=node rest x hg
     obtain ⟨_,_,h6⟩:=ha
     exact zHp hΦ h3 (fun b hb => .inr (h2 b hb)) fun es hx=>h6 xv x h1 es hx
  case log=>exact ha.elim
 have hs:zDo w w Φ (fun b=>Φ b∨b∈Li):=fun b hb=>⟨.inl hb,rfl⟩
 have y9:∀ b,b∈La++Lb→b∈L r:=fun b hb=>by rw [hL];simp at hb ⊢;rcases hb with h | h<;>simp [h]
 refine ⟨nv,Li,fun s=>if s=r then La++Lb else L s,ud,hI,fun s hs=>by simp [hs],?_,?_,?_,?_,?_,fun b hb => .inl (h.frz0 b hb),h.size,h.kept,h.os,h.tape,h.output⟩
 ·intro s
  by_cases yV:s=r
  ·subst yV
   simp only [if_true,hr,true_or]
   have h1:=v3 w (fun b=>Φ b∨b∈Li) (zA2 w rv E) (zA0 q) [] root' (fun _ _ _ h=>h) hs (fun _ _=>rfl) (fun _=>zC5 q) (zD2 hΦ q nv Li (fun b hb => .inr hb) hI) hm
   exact Rep.map uk.agg zDo.refl hA _ _ _ (fun _ _=>rfl) (by simpa using h1)
  ·by_cases yb:s<zAb∨M s=true
   ·simp only [yV,yb,if_false,if_true]
    exact Rep.map uk.agg hs hA _ _ _ (fun _ _=>rfl) (h.rep s)
   ·simp only [yV,yb,if_false]
    exact (h.rep s).mono hs (fun a u _ ha=>hK a u ha) (fun _ _=>rfl)
 ·intro s
  by_cases yV:s=r
  ·subst yV
   simp only [if_true,List.nodup_append]
   exact ⟨yY.1.1,yY.2.1,fun a ha b hb e=>yY.2.2 a (by simp [ha]) b hb e⟩
  ·simp only [yV,if_false];exact h.nodup s
 ·intro s s' hH b hb yF
  by_cases yV:s=r
  ·subst yV
   simp only [if_true] at hb
   rw [if_neg (Ne.symm hH)] at yF
   exact h.disj s s' hH b (y9 b hb) yF
  ·rw [if_neg yV] at hb
   by_cases hsr':s'=r
   ·subst hsr'
    simp only [if_true] at yF
    exact h.disj s s' hH b hb (y9 b yF)
   ·rw [if_neg hsr'] at yF;exact h.disj s s' hH b hb yF
 ·intro s b hb
  have jO:∃ t,b∈L t∧b∉Li:=by
   by_cases yV:s=r
   ·subst yV
    simp only [if_true] at hb
    exact ⟨s,y9 b hb,fun ue=>vD b ue hb⟩
   ·rw [if_neg yV] at hb
    exact ⟨s,hb,fun ue=>h.disj s r yV b hb (by rw [hL];simp [ue])⟩
  obtain ⟨t,h1,h2⟩:=jO
  obtain ⟨h3,h4,h5⟩:=h.own t b h1
  exact ⟨h3,fun hp=>hp.elim h4 h2,h5⟩
 ·intro b hb
  rcases hb with hb | hb
  ·exact h.frz b hb
  ·obtain ⟨h3,h4,h5⟩:=h.own r b (by rw [hL];simp [hb])
   exact ⟨h3,.inr h5⟩
end
end Go.Eng
namespace Go.Eng
open Go
theorem Env.get_set (e:Env) (s:Nat) (p:PV) (t:Nat):(e.set s p).get t=if t=s then p else e.get t:=by
 induction e with
 | nil =>
  simp only [Env.set,Env.get]
  by_cases h:t=s
  ·subst h;simp
  ·have:Nat.beq s t=false:=by
    cases hb:Nat.beq s t with
    | false=>rfl
    | true=>exact absurd (Nat.eq_of_beq_eq_true hb).symm h
   simp [this,h]
 | cons x e ih =>
  obtain ⟨k,v⟩:=x
  simp only [Env.set]
  cases hk:Nat.beq k s with
  | true =>
   have:=Nat.eq_of_beq_eq_true hk;subst this
   simp only [cond_true,Env.get]
   by_cases h:t=k
   ·subst h;simp
   ·have:Nat.beq k t=false:=by
     cases hb:Nat.beq k t with
     | false=>rfl
     | true=>exact absurd (Nat.eq_of_beq_eq_true hb).symm h
    simp [this,h]
  | false =>
   have hH:k≠s:=fun h=>by subst h;simp at hk
   simp only [cond_false]
   cases Nat.ble s k with
   | true =>
    simp only [cond_true,Env.get]
    by_cases h:t=s
    ·subst h;simp
    ·have:Nat.beq s t=false:=by
      cases hb:Nat.beq s t with
      | false=>rfl
      | true=>exact absurd (Nat.eq_of_beq_eq_true hb).symm h
     simp [this,h]
   | false =>
    simp only [cond_false,Env.get,ih]
    cases hb:Nat.beq k t with
    | true =>
     have:=Nat.eq_of_beq_eq_true hb;subst this
     simp [hH]
    | false=>rfl
theorem Env.get_map (e:Env) {g:PV→PV} (hg:g .bad = .bad) (s:Nat):Env.get (e.map fun x=>(x.1,g x.2)) s=g (e.get s):=by
 induction e with
 | nil=>simp [Env.get,hg]
 | cons x e ih =>
  obtain ⟨k,v⟩:=x
  simp only [List.map_cons,Env.get,ih]
  cases Nat.beq k s<;>rfl
theorem Env.get_kill (e:Env) (r:Nat) (pre:zAS) (s:Nat):(e.kill r pre).get s=(e.get s).mapW (lose r pre):=Env.get_map e (g:=fun p=>p.mapW (lose r pre)) rfl s
theorem Env.get_killEx (e:Env) (r:Nat) (keep:List zAS) (s:Nat):(e.killEx r keep).get s=(e.get s).mapW (zBF r keep):=Env.get_map e (g:=fun p=>p.mapW (zBF r keep)) rfl s
theorem Env.get_drop (e:Env) (l:List Nat) (s:Nat):(e.drop l).get s=if zMv l s then .bad else e.get s:=by
 induction e with
 | nil=>simp [Env.drop,Env.get]
 | cons x e ih =>
  obtain ⟨k,v⟩:=x
  simp only [Env.drop] at ih ⊢
  simp only [List.filter_cons]
  by_cases hk:zMv l k=true
  ·simp only [hk,Bool.not_true,Bool.false_eq_true,if_false,ih,Env.get]
   cases hb:Nat.beq k s with
   | true=>have:=Nat.eq_of_beq_eq_true hb;subst this;simp [hk]
   | false=>rfl
  ·simp only [hk,Bool.not_false,if_true,Env.get,ih]
   cases hb:Nat.beq k s with
   | true=>have:=Nat.eq_of_beq_eq_true hb;subst this;simp [hk]
   | false=>rfl
theorem Env.frz_eq {e e':Env} {r:Nat} {pre:zAS} (h:e.frz r pre=some e') :
  ∃ q root,(e.get r).isLock=false∧zAC (e.get r) pre=some q∧zAv (fun _=>some (zA0 q)) (e.get r) pre=some root∧∀ s,e'.get s=(if s=r then root else e.get s).mapW (inl r pre q):=by
 simp only [Env.frz] at h
 cases hl:(e.get r).isLock with
 | true=>rw [hl] at h;cases h
 | false =>
 rw [hl] at h;simp only [cond_false] at h
 cases hq:zAC (e.get r) pre with
 | none=>rw [hq] at h;cases h
 | some q =>
  rw [hq] at h;simp only at h
  cases hm:zAv (fun _=>some (zA0 q)) (e.get r) pre with
  | none=>rw [hm] at h;cases h
  | some root =>
   rw [hm] at h;simp only [Option.some.injEq] at h
   subst h
   refine ⟨q,root,rfl,rfl,hm,fun s=>?_⟩
   rw [Env.get_map (e.set r root) (g:=fun p=>p.mapW (inl r pre q)) rfl s,Env.get_set]
structure Hid where
 val:Nat→Value
 ds:List Deferred
structure St (w0:World) (U Φ0:Nat→Prop) (nt:Nat) (hv:Hid) (a:Act) (w:World) (e:Env) (Φ:Nat→Prop) (rv:Nat→Value) (E:Nat→PV) (L:Nat→List Nat):Prop where
 conf:Conf w0 U Φ0 w Φ rv E L
 env:∀ s,s<zAb→E s=e.get s
 size:a.tmps.size=nt
 small:nt≤2000000
 tmps:∀ t,t<nt→a.tmps.getD t undef=rv t
 parts:∀ d ps i,d<nt→E d = .tup ps→i<ps.length→i<16∧∃ vs,rv d = .tuple vs∧vs[i]? = some (rv (zBq d i))
 hid:∀ s,zAl≤s→s<zAA→rv s=hv.val s
 dfr:a.defers=hv.ds
def Fr (w0:World) (U Φ0:Nat→Prop) (nt:Nat) (hv:Hid) (a:Act) (w:World) (e:Env):Prop :=
 ∃ Φ rv E L,St w0 U Φ0 nt hv a w e Φ rv E L∧∀ g,zAb≤g→E g = .bad
def zAW (nt:Nat):Operand→Bool
 | .tmp t=>Nat.blt t nt
 | _=>true
theorem zBY {a b:Nat} (h:Nat.blt a b=true):a<b:=Nat.le_of_ble_eq_true h
section
variable {w0 w:World} {U Φ0 Φ:Nat→Prop} {nt:Nat} {hv:Hid} {a:Act} {e e':Env} {rv rv':Nat→Value} {E E':Nat→PV} {L L':Nat→List Nat} {o:zAF}
mutual
theorem zDl {A:Al}:∀ (p:PV) (v:Value) (L:List Nat),p.heavy=false→Rep w Φ A p v L→L=[]
 | .own ..,_,_,hp,_=>by cases hp
 | .box _,_,_,hp,_=>by cases hp
 | .omap _,_,_,hp,_=>by cases hp
 | .lock _,_,_,hp,_=>by cases hp
 | .agg cs,_,_,hp,h=>by obtain ⟨vs,_,h⟩:=h;exact zHD cs _ _ hp h
 | .tup cs,_,_,hp,h=>by obtain ⟨vs,_,h⟩:=h;exact zHD cs _ _ hp h
 | .bad,_,_,_,h=>h
 | .und,_,_,_,h=>h.2
 | .int ..,_,_,_,h=>h.2
 | .bool _,_,_,_,h=>h.2
 | .nilp,_,_,_,h=>h.2
 | .nilf,_,_,_,h=>h.2
 | .nilm,_,_,_,h=>h.2
 | .nn,_,_,_,h=>h.1
 | .nils _,_,_,_,h=>h.2
 | .sl xs,_,_,_,h=>h.1
 | .ref q,_,_,_,h=>h.1
 | .map es,_,_,_,h=>h.1
 | .func _ _ _,_,_,_,h=>h.1
 | .addr ..,_,_,_,h=>h.1
 | .bor ..,_,_,_,h=>h.1
 | .bsl ..,_,_,_,h=>h.1
 | .bmap ..,_,_,_,h=>h.1
 | .yld _,_,_,_,h=>h.1
 | .log ..,_,_,_,h=>h.1
theorem zHD {A:Al}:∀ (ps:List PV) (vs:List Value) (L:List Nat),zC3 ps=false→zAZ w Φ A ps vs L→L=[]
 | [],_,_,_,h=>h.2
 | p::ps,_,_,hp,h=>by
  simp only [zC3,Bool.or_eq_false_iff] at hp
  obtain ⟨v,vs',L1,L2,rfl,rfl,h1,h2⟩:=h
  rw [zDl p v L1 hp.1 h1,zHD ps vs' L2 hp.2 h2];rfl
end
def zVU (E E':Nat→PV):Prop:=∀ d ps,d<2000000→E' d = .tup ps→∃ ps',E d = .tup ps'∧ps'.length=ps.length
theorem zVU.refl:zVU E E:=fun _ ps _ h=>⟨ps,h,rfl⟩
theorem zC1 {f:PV→PV}:∀ ps:List PV,(zCK f ps).length=ps.length
 | []=>rfl
 | p::ps=>by simp [zCK,zC1 ps]
theorem zDS {f:PV→PV} (hf:∀ p,p.isWay=true→(f p).isTup=false) {p:PV} {ps:List PV} (h:p.mapW f = .tup ps):∃ ps',p = .tup ps'∧ps'.length=ps.length:=by
 cases hp:p.isWay with
 | true=>rw [zF2 hp] at h;have:=hf p hp;rw [h] at this;cases this
 | false =>
  cases p<;>first | (cases hp;done) | (simp [PV.mapW] at h;done) | skip
  simp only [PV.mapW,PV.tup.injEq] at h
  exact ⟨_,rfl,by rw [← h,zC1]⟩
theorem zIp (r:Nat) (pre:zAS) (p:PV) (hp:p.isWay=true):(lose r pre p).isTup=false:=by
 rcases zGu r pre p with h | ⟨_,h⟩
 ·rw [h];cases p<;>first | rfl | cases hp
 ·rw [h];rfl
theorem St.turn (S:St w0 U Φ0 nt hv a w e Φ rv E L) {w':World} {Φ':Nat→Prop} (hc:Conf w0 U Φ0 w' Φ' rv' E' L') (he:∀ s,s<zAb→E' s=e'.get s) (hr:∀ s,s<zAb→rv' s=rv s) (hE:zVU E E') :
  St w0 U Φ0 nt hv a w' e' Φ' rv' E' L':=by
 have hs:=S.small
 refine ⟨hc,he,S.size,S.small,fun t ht=>?_,fun d ps i hd hp hi=>?_,fun s h1 h2=>?_,S.dfr⟩
 ·rw [hr t (by simp only [zAb];omega)];exact S.tmps t ht
 ·obtain ⟨ps',h1,h2⟩:=hE d ps (by omega) hp
  obtain ⟨h3,vs,h4,h5⟩:=S.parts d ps' i hd h1 (by omega)
  refine ⟨h3,vs,?_,?_⟩
  ·rw [hr d (by simp only [zAb];omega)];exact h4
  ·rw [hr _ (by simp only [zBq,zAb];omega)];exact h5
 ·rw [hr s (by simp only [zAA,zAb] at *;omega)];exact S.hid s h1 h2
theorem zIF {A:Al} (v:Value):Rep w Φ A (zEg v) v []:=by
 have key:∀ cs:List Value,zAZ w Φ A (cs.map fun | .int k n=>PV.int k n | .bool b => .bool b | _ => .bad) cs []:=by
  intro cs
  induction cs with
  | nil=>exact ⟨rfl,rfl⟩
  | cons c cs ih =>
   refine ⟨c,cs,[],[],rfl,rfl,?_,ih⟩
   cases c<;>first | exact ⟨rfl,rfl⟩ | rfl
 cases v with
 | slice x n c =>
  cases x with
  | some x=>cases n<;>cases c<;>rfl
  | none=>cases n<;>cases c<;>first | exact ⟨rfl,rfl⟩ | rfl
 | pointer x=>cases x<;>first | exact ⟨rfl,rfl⟩ | rfl
 | map x=>cases x<;>first | exact ⟨rfl,rfl⟩ | rfl
 | agg cs=>exact ⟨cs,rfl,key _⟩
 | _=>first | exact ⟨rfl,rfl⟩ | rfl
theorem zBz (S:St w0 U Φ0 nt hv a w e Φ rv E L) {x:Operand} (hx:zAW nt x=true) {k:PV→PM} (h:(opd x k).run o e=some e') :
  ∃ p,(k p).run o e=some e'∧Rep w Φ (zA2 w rv E) p (a.eval x) []:=by
 have hs:=S.small
 cases x with
 | tmp t =>
  have ht:=zBY hx
  have yj:(t:Nat)<zAb:=Nat.lt_of_lt_of_le ht (Nat.le_trans S.small (by decide))
  refine ⟨_,h,?_⟩
  have:=S.conf.view yj
  rw [S.env t yj] at this
  simp only [Act.eval]
  rw [S.tmps t ht];exact this
 | const v=>exact ⟨_,h,zIF v⟩
 | func f=>exact ⟨_,h,rfl,#[],#[],rfl,⟨rfl,rfl⟩,⟨rfl,rfl⟩⟩
 | global g=>cases h
theorem zHu (S:St w0 U Φ0 nt hv a w e Φ rv E L):∀ {xs:List Operand},(∀ x∈xs,zAW nt x=true)→∀ {k:List PV→PM},(zSI xs k).run o e=some e' →
  ∃ ps,(k ps).run o e=some e'∧zAZ w Φ (zA2 w rv E) ps (xs.map a.eval) []
 | [],_,k,h=>⟨[],h,rfl,rfl⟩
 | x::xs,hx,k,h=>by
  obtain ⟨p,h1,h2⟩:=zBz S (hx x (by simp)) h
  obtain ⟨ps,h3,h4⟩:=zHu S (fun y hy=>hx y (by simp [hy])) h1
  exact ⟨p::ps,h3,_,_,[],[],rfl,rfl,h2,h4⟩
def zUy (g:Nat) (rv rv':Nat→Value) (E E':Nat→PV) (L L':Nat→List Nat):Prop:=∀ s,zAb≤s→s≠g→E' s=E s∧rv' s=rv s∧L' s=L s
theorem St.hold (S:St w0 U Φ0 nt hv a w e Φ rv E L) {g:Nat} (hg:zAb≤g) {p:PV} {v:Value} (hr:Rep w Φ (zA2 w rv E) p v []):St w0 U Φ0 nt hv a w e Φ (upd rv g v) (upd E g p) (upd L g []):=by
 refine S.turn (S.conf.hold hg hr) (fun s hs=>?_) (fun s hs=>zAf (by omega)) fun d ps hd hp=>?_
 ·rw [zAf (by omega)];exact S.env s hs
 ·rw [zAf (by simp only [zAb] at hg;omega)] at hp;exact ⟨ps,hp,rfl⟩
theorem zHI (S:St w0 U Φ0 nt hv a w e Φ rv E L) {x:Operand} (hx:zAW nt x=true) {g:Nat} (hg:zAb≤g) {k:PV→PM} (h:(zOM x k).run o e=some e') :
  ∃ e1 rv1 E1 L1,(k (E1 g)).run o e1=some e'∧St w0 U Φ0 nt hv a w e1 Φ rv1 E1 L1∧rv1 g=a.eval x∧zUy g rv rv1 E E1 L L1:=by
 have jc:=S.small
 have light:∀ p,(k p).run o e=some e'→Rep w Φ (zA2 w rv E) p (a.eval x) []→∃ e1 rv1 E1 L1,(k (E1 g)).run o e1=some e'∧St w0 U Φ0 nt hv a w e1 Φ rv1 E1 L1∧rv1 g=a.eval x∧zUy g rv rv1 E E1 L L1:=by
  intro p h hr
  refine ⟨e,_,_,_,?_,S.hold hg hr,zAh,fun s _ hH=>⟨zAf hH,zAf hH,zAf hH⟩⟩
  rw [zAh];exact h
 cases x with
 | tmp t =>
  have ht:=zBY hx
  have yj:(t:Nat)<zAb:=Nat.lt_of_lt_of_le ht (Nat.le_trans S.small (by decide))
  have hI:=S.conf.rep t
  rw [S.env t yj] at hI
  have v6:a.eval (.tmp t)=rv t:=S.tmps t ht
  simp only [zOM,PM.run] at h
  split at h
  ·cases h
  ·rename_i p _
   split at h
   ·rename_i hh
    simp only [PM.run] at h
    refine ⟨_,_,_,_,?_,S.turn (e':=e.set t .bad) (S.conf.take yj hg) (fun s hs=>?_) (fun s hs=>zAf (by omega)) (fun d ps hd hp=>?_),by rw [zAh,v6],fun s h1 h2=>?_⟩
    ·rw [zAh,S.env t yj];exact h
    ·rw [zAf (by omega),Env.get_set]
     by_cases h2:s=t
     ·subst h2;rw [zAh,if_pos rfl]
     ·rw [zAf h2,if_neg h2];exact S.env s hs
    ·rw [zAf (by simp only [zAb] at hg;omega)] at hp
     by_cases h2:d=t
     ·subst h2;rw [zAh] at hp;cases hp
     ·rw [zAf h2] at hp;exact ⟨ps,hp,rfl⟩
    ·have h3:s≠t:=by intro h;subst h;exact absurd yj (Nat.not_lt.2 h1)
     rw [zAf h2,zAf h2,zAf h2,zAf h3,zAf h3];exact ⟨rfl,rfl,rfl⟩
   ·rename_i hh
    simp only [Bool.not_eq_true] at hh
    have hL:=zDl _ _ _ hh hI
    rw [hL] at hI
    exact light _ h (by rw [v6];exact hI)
 | const v=>exact light _ h (zIF v)
 | func f=>exact light _ h ⟨rfl,#[],#[],rfl,⟨rfl,rfl⟩,⟨rfl,rfl⟩⟩
 | global g=>cases h
theorem zQy (S:St w0 U Φ0 nt hv a w e Φ rv E L) {d g:Nat} (uc:d<zAb) (hg:zAb≤g) {k:PM} (h:(lay d (E g) k).run o e=some e') :
  ∃ e1 E1 L1,k.run o e1=some e'∧Conf w0 U Φ0 w Φ (upd rv d (rv g)) E1 L1∧(∀ s,s<zAb→E1 s=e1.get s)∧(∀ s,s≠d→s<zAb→E1 s=E s∨E1 s=(E s).mapW (lose d [])) ∧
   (E1 d=E g∨E1 d=(E g).mapW (lose d []))∧E1 g = .bad∧∀ s,zAb≤s→s≠g→E1 s=E s∨E1 s=(E s).mapW (lose d []):=by
 have vE:d≠g:=by omega
 simp only [lay] at h
 cases hh:(E g).heavy with
 | true =>
  rw [hh] at h;simp only [cond_true,PM.run] at h
  refine ⟨_,_,_,h,S.conf.lay uc hg,fun s hs=>?_,fun s hs kK => .inr ?_,.inr ?_,zAh,fun s h1 h2 => .inr ?_⟩
  ·rw [zAf (by omega),Env.get_set,Env.get_kill]
   by_cases h2:s=d
   ·subst h2;rw [zAh,if_pos rfl]
   ·rw [zAf h2,if_neg h2,S.env s hs]
  ·rw [zAf (by omega),zAf hs]
  ·rw [zAf (by omega),zAh]
  ·rw [zAf h2,zAf (by omega)]
 | false =>
  rw [hh] at h;simp only [cond_false,PM.run] at h
  have hI:=S.conf.rep g
  rw [zDl _ _ _ hh hI] at hI
  have h1:=S.conf.put (s:=d) hh hI
  have h2:=h1.drop fun s=>s==g
  refine ⟨_,_,_,h,h2,fun s hs=>?_,fun s hs kK => .inl ?_,.inl ?_,by simp,fun s h1 h2 => .inl ?_⟩
  ·rw [Env.get_set]
   have:(s==g)=false:=by simp;omega
   simp only [this,Bool.false_eq_true,if_false]
   by_cases h2:s=d
   ·subst h2;rw [zAh,if_pos rfl]
   ·rw [zAf h2,if_neg h2,S.env s hs]
  ·have:(s==g)=false:=by simp;omega
   simp [this,zAf hs]
  ·have:(d==g)=false:=by simp;omega
   simp [this,zAh]
  ·have:(s==g)=false:=by simp [h2]
   simp [this,zAf (show s≠d by omega)]
theorem zTs (S:St w0 U Φ0 nt hv a w e Φ rv E L) {d g:Nat} (hd:d<zAl) (hg:zAb≤g) {k:PM} (h:(lay d (E g) k).run o e=some e') :
  ∃ e1 E1 L1,k.run o e1=some e'∧Conf w0 U Φ0 w Φ (upd rv d (rv g)) E1 L1∧(∀ s,s<zAb→E1 s=e1.get s)∧(∀ s,s≠d→s<zAb→E1 s=E s∨E1 s=(E s).mapW (lose d [])) ∧
   (E1 d=E g∨E1 d=(E g).mapW (lose d []))∧E1 g = .bad∧∀ s,zAb≤s→s≠g→E1 s=E s∨E1 s=(E s).mapW (lose d []) :=
 zQy S (by simp only [zAl,zAb] at *;omega) hg h
theorem Act.put_tmps (a:Act) {d:Nat} {v:Value} (hd:d<a.tmps.size) (t:Nat):(a.put (some d) v).tmps.getD t undef=if t=d then v else a.tmps.getD t undef:=by
 simp only [Act.put,Array.getD_eq_getD_getElem?,Array.getElem?_setIfInBounds]
 by_cases h:t=d
 ·subst h;simp [hd]
 ·rw [if_neg (Ne.symm h),if_neg h]
theorem zFy (S:St w0 U Φ0 nt hv a w e Φ rv E L) {d:Option Nat} (hd:∀ x,d=some x→x<nt) {g:Nat} (hg:zAb≤g) (h:(put d (E g)).run o e=some e') (hb:∀ s,zAb≤s→s≠g→E s = .bad) :
  Fr w0 U Φ0 nt hv (a.put d (rv g)) w e':=by
 have jc:=S.small
 cases d with
 | none =>
  simp only [put,PM.run,Option.some.injEq] at h;subst h
  have h2:=S.conf.drop fun s=>s==g
  refine ⟨_,_,_,_,S.turn h2 (fun s hs=>?_) (fun _ _=>rfl) (fun d ps hd hp=>?_),fun s hs=>?_⟩
  ·have:(s==g)=false:=by simp;omega
   simp only [this,Bool.false_eq_true,if_false];exact S.env s hs
  ·have:(d==g)=false:=by simp only [zAb] at hg;simp;omega
   simp only [this,Bool.false_eq_true,if_false] at hp;exact ⟨ps,hp,rfl⟩
  ·by_cases h3:s=g
   ·subst h3;simp
   ·have:(s==g)=false:=by simp [h3]
    simp only [this,Bool.false_eq_true,if_false];exact hb s hs h3
 | some d =>
  have vF:=hd d rfl
  have hds:d<a.tmps.size:=by rw [S.size];exact vF
  simp only [put] at h
  cases ht:(E g).isTup with
  | true=>rw [ht] at h;cases h
  | false =>
   rw [ht] at h;simp only [cond_false] at h
   obtain ⟨e1,E1,L1,h1,h2,h3,h4,h5,h6,h7⟩:=zTs S (by simp only [zAl];omega) hg h
   simp only [PM.run,Option.some.injEq] at h1;subst h1
   refine ⟨_,_,_,_,⟨h2,h3,by simp only [Act.put,Array.size_setIfInBounds];exact S.size,S.small,fun t gZ=>?_,fun d' ps i wK hp hi=>?_,fun s uh kK=>?_,S.dfr⟩,fun s hs=>?_⟩
   ·rw [Act.put_tmps a hds]
    by_cases v7:t=d
    ·subst v7;simp [zAh]
    ·rw [if_neg v7,zAf v7];exact S.tmps t gZ
   ·have vE:d'≠d:=by
     intro hc;subst hc
     rcases h5 with h5 | h5
     ·rw [h5] at hp;rw [hp] at ht;cases ht
     ·rw [h5] at hp
      obtain ⟨ps',h8,_⟩:=zDS (zIp d' []) hp
      rw [h8] at ht;cases ht
    have:∃ ps',E d' = .tup ps'∧ps'.length=ps.length:=by
     rcases h4 d' vE (by simp only [zAb];omega) with h8 | h8
     ·exact ⟨ps,by rw [← h8,hp],rfl⟩
     ·rw [h8] at hp;exact zDS (zIp d []) hp
    obtain ⟨ps',h8,h9⟩:=this
    obtain ⟨h10,vs,h11,h12⟩:=S.parts d' ps' i wK h8 (by omega)
    exact ⟨h10,vs,by rw [zAf vE];exact h11,by rw [zAf (by simp only [zBq];omega)];exact h12⟩
   ·rw [zAf (by simp only [zAl] at uh;omega)];exact S.hid s uh kK
   ·by_cases h8:s=g
    ·subst h8;exact h6
    ·rcases h7 s hs h8 with h9 | h9
     ·rw [h9];exact hb s hs h8
     ·rw [h9,hb s hs h8];rfl
end
end Go.Eng
