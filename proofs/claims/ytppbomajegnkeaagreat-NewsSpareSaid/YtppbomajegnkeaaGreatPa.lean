/- For any news, cries and evenings the law NewsSpare ends in true: the cries that can be left out, or the error, are as specified; without conditions. -/
import Derived.Calls
import Derived.Below
import Derived.CallsIn
import Derived.Laws.StructEq
import Derived.Laws.Cover3
import Derived.Laws.Slices
import Derived.Laws.MakeOwn
import Derived.Laws.CopyRow
set_option linter.unusedVariables false
set_option linter.unusedSimpArgs false
set_option linter.unusedSectionVars false
namespace Go.Eng
open Go
theorem zzLn {α:Type}:(∀ (l:List α) (i:Nat) (a:α),(l.set i a).length=l.length) ∧ (∀ a b:List α,(a++b).length=a.length+b.length) ∧ (∀ (a:α) (l:List α),(a::l).length=l.length+1) ∧ ([]:List α).length=0:=⟨fun _ _ _=>List.length_set,fun _ _=>List.length_append,fun _ _=>rfl,rfl⟩
inductive PV where
 | bad | und
 | int (k:IntKind) (n:Int) | bool (b:Bool)
 | nilp | nilf | nilm | nn | nils (sz:Nat)
 | agg (cs:List PV) | tup (vs:List PV)
 | sl (xs:List PV) | own (sz:Nat) (xs:List PV)
 | ref (p:PV) | box (p:PV)
 | map (es:List (PV×PV)) | omap (es:List (PV×PV))
 | func (f:FuncId) (first caps:List PV)
 | addr (r:Nat) (pre:List (Nat×Nat)) (i c:Nat) (sh:Option Nat)
 | bor (r:Nat) (pre:List (Nat×Nat)) (sz lo n:Nat)
 | bsl (r:Nat) (pre:List (Nat×Nat)) (i c:Nat) (sz:Nat) (ag:Bool) (n:Nat)
 | bmap (r:Nat) (pre:List (Nat×Nat))
 | lock (p:PV)
 | yld (h:Nat) | log (xs:List PV) (k:Int)
 deriving Inhabited
abbrev zAO:=List (Nat×Nat)
def zAm:Nat:=50000000
def zAx:Nat:=60000000
def zAb:Nat:=1000000000
def depth:Nat:=6
abbrev Env:=List (Nat×PV)
def Env.get:Env→Nat→PV
 | [],_ => .bad
 | (k,v)::e,s=>bif Nat.beq k s then v else Env.get e s
def Env.set:Env→Nat→PV→Env
 | [],s,p=>[(s,p)]
 | (k,v)::e,s,p=>bif Nat.beq k s then (s,p)::e else bif Nat.ble s k then (s,p)::(k,v)::e else (k,v)::Env.set e s p
def PV.cells:PV→List PV
 | .agg cs=>cs
 | p=>[p]
def zNT:Option Nat→List PV→PV
 | some _,cs => .agg cs
 | none,c::_=>c
 | none,[] => .bad
def PV.isAgg:PV→Bool
 | .agg _=>true
 | _=>false
def PV.oneCell:PV→Bool
 | .int .. | .bool _ | .nilp | .nilf | .nilm | .nn | .nils _ | .sl _ | .own .. | .ref _ | .box _ | .map _ | .omap _ | .func .. | .addr .. | .bor .. | .bsl .. | .bmap .. => true
 | _=>false
def PV.whole (p:PV):Bool:=p.isAgg||p.oneCell
def PV.isTup:PV→Bool
 | .tup _=>true
 | _=>false
def PV.heavy0:PV→Bool
 | .own .. | .box .. | .omap .. => true
 | _=>false
mutual
def PV.heavy:PV→Bool
 | .own .. => true
 | .box _=>true
 | .omap _=>true
 | .lock _=>true
 | .agg cs=>zCU cs
 | .tup vs=>zCU vs
 | _=>false
def zCU:List PV→Bool
 | []=>false
 | p::ps=>p.heavy||zCU ps
end
def zHc (r:Nat) (pre:zAO):PV→PV
 | .agg _ | .tup _ | .lock _ => .bad
 | .own sz xs => .bor r pre sz 0 xs.length
 | .box p => .addr r pre 0 0 (match p with | .agg cs=>some cs.length | _=>none)
 | .omap _ => .bmap r pre
 | p=>p
def zBx (r:Nat) (pre:zAO) (i:Nat):Nat→List PV→List PV
 | _,[]=>[]
 | c,p::ps=>zHc r (pre++[(i,c)]) p::zBx r pre i (c+1) ps
def zSq (r:Nat):PV→PV
 | .agg cs => .agg (zBx r [] 0 0 cs)
 | .tup _ => .bad
 | p=>zHc r [] p
def view (r:Nat):PV→PV
 | .lock p=>zSq r p
 | p=>zSq r p
def PV.unlock:PV→PV
 | .lock p=>p
 | p=>p
def zYr:PV→Option (List PV)
 | .own _ xs=>some xs
 | .sl xs=>some xs
 | .box p=>some [p]
 | .ref p=>some [p]
 | .agg cs=>some [.agg cs]
 | _=>none
def zA6:PV→Option (List PV)
 | .own _ xs=>some xs
 | .box p=>some [p]
 | _=>none
def zAB:PV→List PV→Option PV
 | .own sz _,xs=>some (.own sz xs)
 | .box _,[p]=>some (.box p)
 | .agg _,[.agg cs]=>some (.agg cs)
 | _,_=>none
def zAZ:PV→Option (List PV)
 | .own _ xs=>some xs
 | .box p=>some [p]
 | .agg cs=>some [.agg cs]
 | _=>none
def zAy:PV→Nat→List PV→PV
 | .agg cs,c,qs => .agg (cs.take c++qs++cs.drop (c+qs.length))
 | _,_,q::_=>q
 | p,_,[]=>p
def zAz:PV→zAO→Option PV
 | p,[]=>some p
 | p,(i,c)::rest =>
  match zAZ p with
  | some xs=>match xs[i]? with
   | some x=>match x.cells[c]? with
    | some q=>zAz q rest
    | none=>none
   | none=>none
  | none=>none
def zAv (f:PV→Option PV):PV→zAO→Option PV
 | p,[]=>f p
 | p,(i,c)::rest =>
  match zAZ p with
  | some xs=>match xs[i]? with
   | some x=>match x.cells[c]? with
    | some q=>match zAv f q rest with
     | some q'=>zAB p (xs.set i (zAy x c [q']))
     | none=>none
    | none=>none
   | none=>none
  | none=>none
mutual
def zAP:PV→PV
 | .own _ xs => .sl (zAD xs)
 | .box q => .ref (zAP q)
 | .omap es => .map es
 | .agg cs => .agg (zAD cs)
 | .tup _ => .bad
 | .lock _ => .bad
 | p=>p
def zAD:List PV→List PV
 | []=>[]
 | p::ps=>zAP p::zAD ps
end
mutual
def PV.free:PV→Bool
 | .int .. | .bool .. | .nilp | .nilf | .nilm | .nn | .nils _ | .und=>true
 | .sl []=>true
 | .agg cs=>zEz cs
 | .tup vs=>zEz vs
 | .own _ xs=>zEz xs
 | .box q=>q.free
 | .omap es=>zOz es
 | _=>false
def zEz:List PV→Bool
 | []=>true
 | p::ps=>p.free&&zEz ps
def zOz:List (PV×PV)→Bool
 | []=>true
 | (k,v)::es=>k.free&&v.free&&zOz es
end
inductive PM where
 | ok | fail
 | view (s:Nat) (k:PV→PM)
 | get (s:Nat) (k:PV→PM)
 | set (s:Nat) (p:PV) (k:PM)
 | cells (r:Nat) (pre:zAO) (i c n:Nat) (k:Bool→List PV→PM)
 | deep (r:Nat) (pre:zAO) (k:PV→PM)
 | wcells (r:Nat) (pre:zAO) (i c:Nat) (qs:List PV) (k:PM)
 | wnode (r:Nat) (pre:zAO) (q:PV) (k:PM)
 | kill (r:Nat) (pre:zAO) (k:PM)
 | frz (r:Nat) (pre:zAO) (k:PM)
 | killEx (r:Nat) (keep:List zAO) (k:PM)
 | forget (h:Nat) (k:PM)
 | call (f:FuncId) (args hid:List PV) (k:PV→List PV→PM)
abbrev zAC:=FuncId→List PV→List PV→Option (PV×List PV)
mutual
def PV.mapW (f:PV→PV):PV→PV
 | .addr r pre i c sh=>f (.addr r pre i c sh)
 | .bor r pre z lo n=>f (.bor r pre z lo n)
 | .bsl r pre i c sz ag n=>f (.bsl r pre i c sz ag n)
 | .bmap r pre=>f (.bmap r pre)
 | .log xs k=>f (.log xs k)
 | .agg cs => .agg (zCC f cs)
 | .tup cs => .tup (zCC f cs)
 | .func g a b => .func g (zCC f a) (zCC f b)
 | .ref q => .ref (q.mapW f)
 | .box q => .box (q.mapW f)
 | .lock q => .lock (q.mapW f)
 | p=>p
def zCC (f:PV→PV):List PV→List PV
 | []=>[]
 | p::ps=>p.mapW f::zCC f ps
end
mutual
def PV.ways:PV→List (Nat×zAO)
 | .addr r pre .. => [(r,pre)]
 | .bor r pre .. => [(r,pre)]
 | .bsl r pre .. => [(r,pre)]
 | .bmap r pre=>[(r,pre)]
 | .agg cs=>zBn cs
 | .tup cs=>zBn cs
 | .func _ a b=>zBn a++zBn b
 | .ref q=>q.ways
 | .box q=>q.ways
 | .lock q=>q.ways
 | _=>[]
def zBn:List PV→List (Nat×zAO)
 | []=>[]
 | p::ps=>p.ways++zBn ps
end
def PV.plain0:PV→Bool
 | .int .. | .bool .. | .nilp | .nilf | .nilm | .nn | .nils _ | .sl .. | .map .. => true
 | .ref q=>q.ways.isEmpty
 | _=>false
def PV.plain:PV→Bool
 | .agg cs=>cs.all PV.plain0
 | p=>p.plain0
def lose (r:Nat) (pre:zAO):PV→PV
 | .addr r' q i c sh=>bif Nat.beq r' r&&pre.isPrefixOf q then .bad else .addr r' q i c sh
 | .bor r' q z lo n=>bif Nat.beq r' r&&pre.isPrefixOf q then .bad else .bor r' q z lo n
 | .bsl r' q i c sz ag n=>bif Nat.beq r' r&&pre.isPrefixOf q then .bad else .bsl r' q i c sz ag n
 | .bmap r' q=>bif Nat.beq r' r&&pre.isPrefixOf q then .bad else .bmap r' q
 | p=>p
def zBE (r:Nat) (keep:List zAO):PV→PV
 | .addr r' q i c sh=>bif Nat.beq r' r && !(q.isEmpty||keep.any q.isPrefixOf) then .bad else .addr r' q i c sh
 | .bor r' q z lo n=>bif Nat.beq r' r && !(q.isEmpty||keep.any q.isPrefixOf) then .bad else .bor r' q z lo n
 | .bsl r' q i c sz ag n=>bif Nat.beq r' r && !(q.isEmpty||keep.any q.isPrefixOf) then .bad else .bsl r' q i c sz ag n
 | .bmap r' q=>bif Nat.beq r' r && !(q.isEmpty||keep.any q.isPrefixOf) then .bad else .bmap r' q
 | p=>p
def Env.killEx (e:Env) (r:Nat) (keep:List zAO):Env:=e.map fun x=>(x.1,x.2.mapW (zBE r keep))
def zAH (r:Nat) (pre:zAO) (r':Nat) (q:zAO):Bool:=Nat.beq r' r&&pre.isPrefixOf q
def zDu (i c:Nat) (sh:Option Nat) (q:PV):PV :=
 match zA6 q with
 | some xs=>match xs[i]? with
  | some x=>match sh with
   | some m=>bif Nat.ble (c+m) x.cells.length&&x.isAgg then .ref (.agg (zAD ((x.cells.drop c).take m))) else .bad
   | none=>match x.cells[c]? with
    | some q=>bif q.oneCell then .ref (zAP q) else .bad
    | none => .bad
  | none => .bad
 | none => .bad
def zCp (lo n:Nat):PV→PV
 | .own _ xs=>bif Nat.ble (lo+n) xs.length then .sl (zAD ((xs.drop lo).take n)) else .bad
 | _ => .bad
def zCf (ag:Bool) (sz:Nat):Nat→List PV→List PV
 | 0,_=>[]
 | m+1,cs=>(bif ag then .agg (cs.take sz) else cs.headD .bad)::zCf ag sz m (cs.drop sz)
def zCg (ag:Bool) (sz m:Nat) (cs:List PV):Bool:=Nat.beq cs.length (m*sz)&&(ag||Nat.beq sz 1&&cs.all (fun q=>q.oneCell))
def zCj (i c sz:Nat) (ag:Bool) (m:Nat) (q:PV):PV :=
 match zA6 q with
 | some xs=>match xs[i]? with
  | some x=>bif zCg ag sz m ((x.cells.drop c).take (m*sz))&&(zBn x.cells).isEmpty then .sl (zCf ag sz m (zAD ((x.cells.drop c).take (m*sz)))) else .bad
  | none => .bad
 | none => .bad
def zEv:PV→PV
 | .omap es => .map es
 | _ => .bad
def zGj (q:Option PV) (f:PV→PV):PV :=
 match q with
 | some x=>f x
 | none => .bad
def inl (r:Nat) (pre:zAO) (q0:PV):PV→PV
 | .addr r' q i c sh=>bif zAH r pre r' q then zGj (zAz q0 (q.drop pre.length)) (zDu i c sh) else .addr r' q i c sh
 | .bor r' q z lo n=>bif zAH r pre r' q then zGj (zAz q0 (q.drop pre.length)) (zCp lo n) else .bor r' q z lo n
 | .bsl r' q i c sz ag n=>bif zAH r pre r' q then zGj (zAz q0 (q.drop pre.length)) (zCj i c sz ag n) else .bsl r' q i c sz ag n
 | .bmap r' q=>bif zAH r pre r' q then zGj (zAz q0 (q.drop pre.length)) zEv else .bmap r' q
 | p=>p
def PV.isLock:PV→Bool
 | .lock _=>true
 | _=>false
def Env.frz (e:Env) (r:Nat) (pre:zAO):Option Env :=
 bif (e.get r).isLock then none else match zAz (e.get r) pre with
 | some q=>match zAv (fun _=>some (zAP q)) (e.get r) pre with
  | some root=>some ((e.set r root).map fun x=>(x.1,x.2.mapW (inl r pre q)))
  | none=>none
 | none=>none
def Env.kill (e:Env) (r:Nat) (pre:zAO):Env:=e.map fun x=>(x.1,x.2.mapW (lose r pre))
def PV.num:PV→Bool
 | .int .. => true
 | .bool _=>true
 | _=>false
def PV.isWay:PV→Bool
 | .addr .. | .bor .. | .bsl .. | .bmap .. | .log .. => true
 | _=>false
def Env.forget (e:Env) (h:Nat):Env:=e.map fun x=>bif Nat.beq x.1 h||x.2.num then x else (x.1,.bad)
def zAw (r:Nat) (root:PV) (pre:zAO) (i c n:Nat):Option (Bool×List PV) :=
 match zAz root.unlock pre with
 | some q=>match zA6 q with
  | some xs=>match xs[i]? with
   | some x=>bif Nat.ble (c+n) x.cells.length then some (x.isAgg,zBx r pre i c ((x.cells.drop c).take n)) else none
   | none=>none
  | none=>none
 | none=>none
def zDv:PV→zAO→Bool
 | .own ..,_=>true
 | _,[]=>false
 | p,(i,c)::rest =>
  match zAZ p with
  | some xs=>match xs[i]? with
   | some x=>match x.cells[c]? with
    | some q=>zDv q rest
    | none=>false
   | none=>false
  | none=>false
def zBw (root:PV) (pre:zAO) (i c:Nat) (qs:List PV):Option PV :=
 bif zDv root pre && !(zBn qs).isEmpty then none else zAv (fun q=>match zA6 q with
  | some xs=>match xs[i]? with
   | some x=>bif Nat.ble (c+qs.length) x.cells.length then zAB q (xs.set i (zAy x c qs)) else none
   | none=>none
  | none=>none) root pre
def PM.run (o:zAC):PM→Env→Option Env
 | .ok,e=>some e
 | .fail,_=>none
 | .view s k,e=>(k (Eng.view s (e.get s))).run o e
 | .get s k,e=>match e.get s with
  | .lock _=>none
  | p=>(k p).run o e
 | .set s p k,e=>k.run o (e.set s p)
 | .cells r pre i c n k,e=>match zAw r (e.get r) pre i c n with
  | some (a,qs)=>(k a qs).run o e
  | none=>none
 | .deep r pre k,e=>match zAz (e.get r).unlock pre with
  | some q=>(k q).run o e
  | none=>none
 | .wcells r pre i c qs k,e=>match zBw (e.get r) pre i c qs with
  | some root=>k.run o (e.set r root)
  | none=>none
 | .wnode r pre q k,e=>bif (e.get r).isLock then none else match zAv (fun _=>some q) (e.get r) pre with
  | some root=>k.run o (e.set r root)
  | none=>none
 | .kill r pre k,e=>k.run o (e.kill r pre)
 | .frz r pre k,e=>match e.frz r pre with
  | some e'=>k.run o e'
  | none=>none
 | .killEx r keep k,e=>k.run o (e.killEx r keep)
 | .forget h k,e=>k.run o (e.forget h)
 | .call f args hid k,e=>match o f args hid with
  | some (v,hO)=>(k v hO).run o e
  | none=>none
structure Tok where
 look:List Nat:=[]
 rd:List Nat:=[]
 cel:List (Nat×zAO):=[]
 wr:List Nat:=[]
 inn:List (Nat×zAO):=[]
 ways:List (Nat×zAO):=[]
 kills:List Nat:=[]
 killsIn:List Nat:=[]
 all:Bool:=false
 deriving Inhabited
def Tok.join (a b:Tok):Tok:=⟨a.look++b.look,a.rd++b.rd,a.cel++b.cel,a.wr++b.wr,a.inn++b.inn,a.ways++b.ways,a.kills++b.kills,a.killsIn++b.killsIn,a.all||b.all⟩
def zCu:PV→PV→Bool
 | .box p,.box q=>p.isAgg==q.isAgg&&Nat.beq p.cells.length q.cells.length
 | .own sz xs,.own sz' ys=>Nat.beq sz sz'&&Nat.beq xs.length ys.length
 | .omap _,.omap _=>true
 | _,_=>false
def zAE:PV→PV→zAO→Bool
 | .agg cs,.agg ds,(_,c)::_=>match cs[c]?,ds[c]? with
  | some p,some q=>zCu p q
  | _,_=>false
 | p,q,_=>zCu p q
def zR6 (a b:List Nat):Bool:=a.any fun x=>b.any (Nat.beq x)
def zMN (l:List (Nat×zAO)):List Nat:=l.map (·.1)
def zOt (a b:Tok):Bool :=
 a.all||zR6 a.wr b.look||zR6 a.wr b.rd||zR6 a.wr (zMN b.cel)||zR6 a.wr b.wr||zR6 a.wr (zMN b.inn)||zR6 (zMN a.inn) b.rd||zR6 (zMN a.inn) (zMN b.inn) ||
  a.inn.any (fun w=>b.cel.any fun c=>Nat.beq w.1 c.1&&w.2.isPrefixOf c.2)||zR6 a.kills (zMN b.ways) ||
  zR6 a.killsIn (zMN (b.ways.filter fun w => !w.2.isEmpty))
def zPQ (a b:Tok):Bool:=zOt a b||zOt b a
def zFe (s:Nat) (p q:PV):Tok:={wr:=[s],ways:=p.ways++q.ways}
def zAI (D:List Nat) (g g':Nat→PV) (ks ki:List Nat):Tok:={wr:=D,ways:=D.flatMap fun s=>(g s).ways++(g' s).ways,kills:=ks,killsIn:=ki}
def zC6 (e:Env) (h:Nat×zAO→Bool):List Nat:=(e.filter fun x=>x.2.ways.any h).map (·.1)
def zA9 (r:Nat) (w:zAO) (b:Bool) (p q:PV):Tok:={inn:=bif b then [(r,w)] else [],wr:=bif b then [] else [r],ways:=p.ways++q.ways}
def PM.runT (o:zAC):PM→Env→Option (Env×Tok)
 | .ok,e=>some (e,{})
 | .fail,_=>none
 | .view s k,e=>((k (Eng.view s (e.get s))).runT o e).map fun x=>(x.1,Tok.join {look:=[s]} x.2)
 | .get s k,e=>match e.get s with
  | .lock _=>none
  | p=>((k p).runT o e).map fun x=>(x.1,Tok.join {rd:=[s]} x.2)
 | .set s p k,e=>(k.runT o (e.set s p)).map fun x=>(x.1,Tok.join (zFe s (e.get s) p) x.2)
 | .cells r pre i c n k,e=>match zAw r (e.get r) pre i c n with
  | some (a,qs)=>((k a qs).runT o e).map fun x=>(x.1,Tok.join {cel:=[(r,pre)]} x.2)
  | none=>none
 | .deep r pre k,e=>match zAz (e.get r).unlock pre with
  | some q=>((k q).runT o e).map fun x=>(x.1,Tok.join {rd:=[r]} x.2)
  | none=>none
 | .wcells r pre i c qs k,e=>match zBw (e.get r) pre i c qs with
  | some root=>(k.runT o (e.set r root)).map fun x=>(x.1,Tok.join (zA9 r [] (zAE (e.get r) root pre) (e.get r) root) x.2)
  | none=>none
 | .wnode r pre q k,e=>bif (e.get r).isLock then none else match zAv (fun _=>some q) (e.get r) pre with
  | some root=>(k.runT o (e.set r root)).map fun x=>(x.1,Tok.join (zA9 r pre.dropLast (zAE (e.get r) root pre&&(pre.isEmpty || !q.isAgg)) (e.get r) root) x.2)
  | none=>none
 | .kill r pre k,e=>(k.runT o (e.kill r pre)).map fun x=>(x.1,Tok.join (zAI (zC6 e fun z=>zAH r pre z.1 z.2) e.get (e.kill r pre).get [r] []) x.2)
 | .frz r pre k,e=>match e.frz r pre with
  | some e'=>(k.runT o e').map fun x=>(x.1,Tok.join (zAI (r::zC6 e fun z=>zAH r pre z.1 z.2) e.get e'.get [r] []) x.2)
  | none=>none
 | .killEx r keep k,e=>(k.runT o (e.killEx r keep)).map fun x=>(x.1,Tok.join (zAI (zC6 e fun z=>Nat.beq z.1 r && !z.2.isEmpty) e.get (e.killEx r keep).get [] [r]) x.2)
 | .forget h k,e=>(k.runT o (e.forget h)).map fun x=>(x.1,{all:=true})
 | .call f args hid k,e=>match o f args hid with
  | some (v,hO)=>(k v hO).runT o e
  | none=>none
variable (P:Program)
def szT (t:TypeId):Option Nat:=(P.info? t).map (·.size)
def zHK (t:TypeId):Option Nat:=(P.info? t).map (·.bytes)
def shT (t:TypeId):Option (Option Nat) :=
 match P.underlying t,P.info? t with
 | some (.struct _),some i=>some (some i.size)
 | some (.array _ _),some i=>some (some i.size)
 | some _,some i=>if i.size=1 then some none else none
 | _,_=>none
def zBM (t:TypeId):Option TypeId :=
 match P.underlying t with
 | some (.slice e)=>some e
 | _=>none
def zeroCells:Nat→TypeId→Option (List PV)
 | 0,_=>none
 | n+1,t=>match P.underlying t with
  | some (.int k)=>some [.int k 0]
  | some .bool=>some [.bool false]
  | some (.pointer _)=>some [.nilp]
  | some (.func ..)=>some [.nilf]
  | some (.map ..)=>some [.nilm]
  | some (.slice e)=>(szT P e).map fun s=>[.own s []]
  | some (.array m e)=>(zeroCells n e).map fun z=>(List.replicate m z).flatten
  | some (.struct fs)=>(fs.toList.mapM fun f=>zeroCells n f.type).map List.flatten
  | _=>none
def zJ7:PV→Value→Bool
 | .int k n,.int k' m=>decide (k=k')&&decide (n=m)
 | .bool a,.bool b=>a==b
 | .nilp,.pointer none=>true
 | .nilf,.nilFunc=>true
 | .nilm,.map none=>true
 | .own _ [],.slice none 0 0=>true
 | _,_=>false
def zTl:List PV→List Value→Bool
 | [],[]=>true
 | p::ps,v::vs=>zJ7 p v&&zTl ps vs
 | _,_=>false
def zMP:PV→Value→Bool
 | .agg cs,.agg vs=>zTl cs vs.toList
 | .agg _,_=>false
 | p,v=>zJ7 p v
def zCx (t:TypeId):Option PV :=
 match zeroCells P 20 t,shT P t,(P.info? t).bind (·.zero) with
 | some cs,some sh,some v=>bif zMP (zNT sh cs) v then some (zNT sh cs) else none
 | _,_,_=>none
def zEq:Value→PV
 | .int k n => .int k n
 | .bool b => .bool b
 | .slice none 0 0 => .nils 0
 | .pointer none => .nilp
 | .nilFunc => .nilf
 | .map none => .nilm
 | .agg cs => .agg (cs.toList.map fun | .int k n => .int k n | .bool b => .bool b | _ => .bad)
 | _ => .bad
def opd (x:Operand) (k:PV→PM):PM :=
 match x with
 | .tmp t => .view t k
 | .const v=>k (zEq v)
 | .func f=>k (.func f [] [])
 | .global _ => .fail
def zO9 (x:Operand) (k:PV→PM):PM :=
 match x with
 | .tmp t => .get t fun p=>if p.heavy then .set t .bad (k p) else k p
 | .const v=>k (zEq v)
 | .func f=>k (.func f [] [])
 | .global _ => .fail
def zSv:List Operand→(List PV→PM)→PM
 | [],k=>k []
 | x::xs,k=>opd x fun p=>zSv xs fun ps=>k (p::ps)
def zTE:List Operand→(List PV→PM)→PM
 | [],k=>k []
 | x::xs,k=>zO9 x fun p=>zTE xs fun ps=>k (p::ps)
def lay (d:Nat) (p:PV) (k:PM):PM:=bif p.heavy then .kill d [] (.set d (p.mapW (lose d [])) k) else .set d p k
def put (d:Option Nat) (p:PV):PM :=
 match d with
 | none => .ok
 | some d=>bif p.isTup then .fail else lay d p .ok
def zBp (d i:Nat):Nat:=2000000+16*d+i
def zEQ (d:Nat):Nat→List PV→PM→PM
 | n,[],k => .set d (.tup (List.replicate n .bad)) k
 | i,p::ps,k=>lay (zBp d i) p (zEQ d (i+1) ps k)
def zJy (d s:Nat):Bool:=Nat.ble (zBp d 0) s&&Nat.blt s (zBp d 16)
def zDg (d:Option Nat) (v:PV):PM :=
 match d,v with
 | some d,.tup vs=>bif Nat.ble vs.length 16&&(zBn vs).all (fun w => !zJy d w.1) then .set d .bad (zEQ d 0 vs .ok) else .fail
 | d,v=>put d v
def zFp (s d:Nat):Nat→Nat→PM
 | n,0 => .set d (.tup (List.replicate n .bad)) .ok
 | i,n+1 => .get (zBp s i) fun p => .set (zBp s i) .bad (lay (zBp d i) p (zFp s d (i+1) n))
def zXd:PV→PV→Option Bool
 | .int k a,.int k' b=>if k=k' then some (a==b) else none
 | .bool a,.bool b=>some (a==b)
 | .nilp,.nilp=>some true
 | _,_=>none
def zFs:List PV→List PV→Option Bool
 | [],[]=>some true
 | p::ps,q::qs=>match zXd p q,zFs ps qs with
  | some a,some b=>some (a&&b)
  | _,_=>none
 | _,_=>none
def zE2:PV→Bool
 | .sl (_::_)=>true
 | .nn=>true
 | .own _ (_::_)=>true
 | .bor _ _ _ _ (_+1)=>true
 | _=>false
def sub (p:PV) (off:Nat) (sh:Option Nat):Option PV :=
 match p,sh with
 | .agg cs,some n=>if off+n≤cs.length then some (.agg ((cs.drop off).take n)) else none
 | .agg cs,none=>cs[off]?
 | _,_=>none
def zT0 (eq:TypeId→PV→PV→Option Bool) (sh:TypeId→Option (Option Nat)) (p q:PV):List Field→Option Bool
  | []=>some true
  | f :: fs =>
    if f.name = "_" then zT0 eq sh p q fs else
    match sh f.type with
    | some s=>match sub p f.offset s,sub q f.offset s with
      | some a,some b=>match eq f.type a b with
        | some true=>zT0 eq sh p q fs
        | r=>r
      | _,_=>none
    | none=>none
def zT8 (eq:PV→PV→Option Bool) (sh:Option Nat) (sz:Nat) (p q:PV):Nat→Nat→Option Bool
 | _,0=>some true
 | i,n+1 =>
  match sub p (i*sz) sh,sub q (i*sz) sh with
  | some a,some b=>match eq a b with
   | some true=>zT8 eq sh sz p q (i+1) n
   | r=>r
  | _,_=>none
def eqT:Nat→TypeId→PV→PV→Option Bool
 | 0,_,_,_=>none
 | n + 1,t,p,q =>
  match P.underlying t,p,q with
  | some (.int _),.int k a,.int k' b=>if k=k' then some (a==b) else none
  | some .bool,.bool a,.bool b=>some (a==b)
  | some (.pointer _),.nilp,.nilp=>some true
  | some (.struct fs),.agg xs,.agg ys=>bif P.stoodInHeld t then none else zT0 (eqT n) (shT P) (.agg xs) (.agg ys) fs.toList
  | some (.array len e),.agg xs,.agg ys=>match szT P e,shT P e with
   | some sz,some sh=>zT8 (eqT n e) sh sz (.agg xs) (.agg ys) 0 len
   | _,_=>none
  | _,_,_=>none
def eqV (t:TypeId) (p q:PV):Option Bool :=
 match q with
 | .nils _=>match P.underlying t,p with
  | some (.slice _),.nils _=>some true
  | some (.slice _),p=>bif zE2 p then some false else none
  | _,_=>none
 | .agg ys=>match p with
  | .agg xs=>bif P.eqGuardType P.depth t then none else eqT P 20 t (.agg xs) (.agg ys)
  | _=>none
 | q=>bif p.isAgg then none else eqT P 20 t p q
def zUQ (op:BinOp) (k:IntKind) (a b:Int):Option PV :=
 match op with
 | .add=>some (.int k (k.wrap (a+b)))
 | .sub=>some (.int k (k.wrap (a-b)))
 | .mul=>some (.int k (k.wrap (a*b)))
 | .quo=>if b=0 then none else some (.int k (k.wrap (a.tdiv b)))
 | .rem=>if b=0 then none else some (.int k (a.tmod b))
 | .and=>some (.int k (k.wrap (BitVec.ofInt k.bits a &&& BitVec.ofInt k.bits b).toNat))
 | .or=>some (.int k (k.wrap (BitVec.ofInt k.bits a ||| BitVec.ofInt k.bits b).toNat))
 | .xor=>some (.int k (k.wrap (BitVec.ofInt k.bits a ^^^ BitVec.ofInt k.bits b).toNat))
 | .eql=>some (.bool (a==b))
 | .neq=>some (.bool (a != b))
 | .lss=>some (.bool (decide (a<b)))
 | .leq=>some (.bool (decide (a≤b)))
 | .gtr=>some (.bool (decide (a>b)))
 | .geq=>some (.bool (decide (a≥b)))
 | _=>none
def zHM (op:BinOp) (t:TypeId) (p q:PV):Option PV :=
 match op,p,q with
 | .shl,.int k a,.int _ b=>if b<0 then none else some (.int k (k.wrap (a*2 ^ (min b.toNat k.bits))))
 | .shr,.int k a,.int _ b=>if b<0 then none else some (.int k (a.fdiv (2 ^ (min b.toNat k.bits))))
 | op,.int k a,.int k' b=>if k=k' then zUQ op k a b else none
 | .eql,p,q=>(eqV P t p q).map .bool
 | .neq,p,q=>(eqV P t p q).map fun b => .bool (!b)
 | _,_,_=>none
def lenOf:PV→Option Nat
 | .nils _=>some 0
 | .nn=>some 0
 | .sl xs=>some xs.length
 | .bor _ _ _ _ n=>some n
 | .bsl _ _ _ _ _ _ n=>some n
 | _=>none
def zMJ (r:Nat) (pre:zAO) (i c:Nat) (sh:Option Nat) (k:PV→PM):PM :=
 match sh with
 | some n => .cells r pre i c n fun a qs=>bif a then k (.agg qs) else .fail
 | none => .cells r pre i c 1 fun _ qs=>k (qs.headD .bad)
def zDM (r:Nat) (pre:zAO) (i:Nat):Nat→List PV→PM→PM
 | _,[],k=>k
 | c,q::qs,k=>bif q.heavy then .kill r (pre++[(i,c)]) (zDM r pre i (c+1) qs k) else zDM r pre i (c+1) qs k
def zEl (res:PV→(PV→List (Nat×zAO)→PM)→PM):List PV→(List PV→List (Nat×zAO)→PM)→PM
 | [],k=>k [] []
 | p::ps,k=>res p fun q l=>zEl res ps fun qs m=>k (q::qs) (l++m)
def resolve (hb:Nat):Nat→PV→(PV→List (Nat×zAO)→PM)→PM
 | 0,_,_ => .fail
 | n + 1,p,k =>
  match p with
  | .addr r pre i c sh=>bif Nat.ble hb r then k p [] else .deep r pre fun q=>match zA6 q with
   | some xs=>match xs[i]? with
    | some x=>match sh with
     | some m=>bif Nat.ble (c+m) x.cells.length&&x.isAgg then resolve hb n (.agg ((x.cells.drop c).take m)) fun q l=>k (.ref q) ((r,pre)::l) else .fail
     | none=>match x.cells[c]? with
      | some q=>bif q.oneCell then resolve hb n q fun q l=>k (.ref q) ((r,pre)::l) else .fail
      | none => .fail
    | none => .fail
   | none => .fail
  | .bor r pre _ lo m=>bif Nat.ble hb r then k p [] else .deep r pre fun q=>match q with
   | .own _ xs=>bif Nat.ble (lo+m) xs.length then k (.sl (zAD ((xs.drop lo).take m))) [(r,pre)] else .fail
   | _ => .fail
  | .bsl r pre i c sz ag m=>bif Nat.ble hb r then k p [] else .deep r pre fun q=>match zA6 q with
   | some xs=>match xs[i]? with
    | some x=>bif zCg ag sz m ((x.cells.drop c).take (m*sz))&&(zBn x.cells).isEmpty then k (.sl (zCf ag sz m (zAD ((x.cells.drop c).take (m*sz))))) [(r,pre)] else .fail
    | none => .fail
   | none => .fail
  | .bmap r pre=>bif Nat.ble hb r then k p [] else .deep r pre fun q=>match q with
   | .omap es=>k (.map es) [(r,pre)]
   | _ => .fail
  | .agg cs=>bif (p.ways).isEmpty then k (zAP p) [] else zEl (resolve hb n) cs fun qs l=>k (.agg qs) l
  | .func f a b=>bif (p.ways).isEmpty then k p [] else zEl (resolve hb n) a fun as l=>zEl (resolve hb n) b fun bs m=>k (.func f as bs) (l++m)
  | .ref q=>bif (q.ways).isEmpty then k p [] else resolve hb n q fun q l=>k (.ref q) l
  | .bad=>k .bad []
  | p=>bif p.ways.all (fun w=>Nat.ble hb w.1) then k (zAP p) [] else .fail
def zGN (p:PV) (k:List PV→PM):PM :=
 match p with
 | .nils _=>k []
 | .nn=>k []
 | .sl xs=>k xs
 | .bor r pre z lo n => .deep r pre fun q=>match q with
  | .own _ xs=>bif Nat.ble (lo+n) xs.length then k ((xs.drop lo).take n) else .fail
  | _ => .fail
 | .bsl r pre i c sz ag n => .cells r pre i c (n*sz) fun _ cs=>bif zCg ag sz n cs&&cs.all (fun q=>q.plain0) then k (zCf ag sz n cs) else .fail
 | _ => .fail
def zPp (p:PV) (k:PV→List (Nat×zAO)→PM):PM:=resolve zAb depth p k
def zLG (hb:Nat):Nat→PV→(PV→PM)→PM
 | 0,_,_ => .fail
 | n+1,p,k=>match p.ways.find? (fun w=>Nat.blt w.1 hb) with
  | none=>k p
  | some (r,pre) => .deep r pre fun q => .frz r pre (zLG hb n (p.mapW (inl r pre q)) k)
def zDs:Nat:=64
end Go.Eng
namespace Go.Eng
open Go
structure FHint where
 drop:Nat→List Nat:=fun _=>[]
 loopDrop:Nat→List Nat:=fun _=>[]
 mode:List Nat:=[]
 frz:Bool:=false
 intr:Nat:=0
 take:Nat→List Nat:=fun _=>[]
 nils:Bool:=false
 frzs:Nat→List Nat:=fun _=>[]
 ices:Nat→List Nat:=fun _=>[]
abbrev zBc:=FuncId→FHint
instance:Inhabited FHint:=⟨{}⟩
def zEm (m:List (Nat×Nat)):PV→PV
 | .addr r pre i c sh=>match m.lookup r with
  | some h => .addr h pre i c sh
  | none => .bad
 | .bor r pre z lo n=>match m.lookup r with
  | some h => .bor h pre z lo n
  | none => .bad
 | .bsl r pre i c sz ag n=>match m.lookup r with
  | some h => .bsl h pre i c sz ag n
  | none => .bad
 | .bmap r pre=>match m.lookup r with
  | some h => .bmap h pre
  | none => .bad
 | p=>p
def zGn (m:List (Nat×Nat)) (p:PV):PV:=p.mapW (zEm m)
def zNi (p:PV):List Nat:=(p.ways).map (·.1)
structure Arg where
 p:PV
 shared:List (Nat×zAO):=[]
 byref:Bool:=false
def zDX:List Nat→List PV→(List (Bool×PV)→PM)→PM
 | _,[],k=>k []
 | ms,p::ps,k =>
  match ms.headD 0,p with
  | 2,.bor r pre _ 0 n => .deep r pre fun q=>match q with
   | .own sz xs=>bif Nat.ble n xs.length then .wnode r pre .bad (zDX ms.tail ps fun as=>k ((true,.own sz ((xs.drop 0).take n))::as)) else .fail
   | _ => .fail
  | _,p=>zDX ms.tail ps fun as=>k ((false,p)::as)
def zCo:List Nat→List (Bool×PV)→(List Arg→PM)→PM
 | _,[],k=>k []
 | ms,(true,p)::ps,k=>zCo ms.tail ps fun as=>k ({p:=p}::as)
 | ms,(false,p)::ps,k =>
  bif Nat.beq (ms.headD 0) 1 then zCo ms.tail ps fun as=>k ({p:=p,byref:=true}::as)
  else zPp p fun q l=>zCo ms.tail ps fun as=>k ({p:=q,shared:=l}::as)
def zEa:List Nat→List (Bool×PV)→(List Arg→PM)→PM
 | _,[],k=>k []
 | ms,(true,p)::ps,k=>zEa ms.tail ps fun as=>k ({p:=p}::as)
 | ms,(false,p)::ps,k =>
  bif Nat.beq (ms.headD 0) 1 then zEa ms.tail ps fun as=>k ({p:=p,byref:=true}::as)
  else zLG zAb zDs p fun q=>zEa ms.tail ps fun as=>k ({p:=q}::as)
def zNV:List Nat→(List PV→PM)→PM
 | [],k=>k []
 | r::rs,k => .get r fun p=>zNV rs fun ps=>k (p::ps)
def zGb (old new:PV):Bool :=
 match new,old with
 | .own sz _,.own sz' _=>Nat.beq sz sz'
 | .own ..,_=>false
 | .box _,.box _=>true
 | .box _,_=>false
 | .omap _,.omap _=>true
 | .omap _,_=>false
 | .lock _,_=>false
 | .tup _,_=>false
 | _,_=>true
def zNj:List Nat→List PV→List PV→PM→PM
 | r::rs,o::os,p::ps,k=>bif zGb o p then .wnode r [] p (zNj rs os ps k) else .fail
 | [],[],[],k=>k
 | _,_,_,_ => .fail
def zKx:Nat→List Nat→(List Nat→PM)→PM
 | 0,R,k=>k R
 | n+1,R,k=>zNV R fun ts=>let R':=(R++ts.flatMap zNi).eraseDups;bif Nat.beq R'.length R.length then k R else zKx n R' k
def zJ9:List Nat→PM→PM
 | [],k=>k
 | r::rs,k => .killEx r [] (zJ9 rs k)
def zOQ (as:List Arg):List Nat:=(as.flatMap fun a=>if a.byref then zNi a.p else []).eraseDups
def zGV:List Nat→Bool
 | []=>true
 | r::rs => !rs.contains r&&zGV rs
variable (P:Program) (H:zBc)
def zDk (R:List Nat):List (Nat×Nat):=R.zipIdx.map fun (r,j)=>(r,zAm+j)
def zB4 (R:List Nat):List (Nat×Nat):=R.zipIdx.map fun (r,j)=>(zAm+j,r)
def zQT (d:Option Nat) (f:FuncId) (as:List Arg) (again:PM):PM :=
 zKx 3 (zOQ as) fun R =>
 bif zGV R&&R.all (fun r=>Nat.blt r zAb)&&Nat.ble R.length 1000&&Nat.ble as.length 1000&&(as.flatMap (·.shared)).all (fun x => !R.contains x.1) then
  zNV R fun hid => .call f (as.map fun a=>if a.byref then zGn (zDk R) a.p else a.p) (hid.map (zGn (zDk R))) fun v hO =>
   bif (as.flatMap (·.shared)).isEmpty||v.free&&zEz hO then
    zJ9 R<|zNj R hid (hO.map (zGn (zB4 R))) (zDg d (zGn (zB4 R) v))
   else again
 else .fail
def zNF (d:Option Nat) (f:FuncId) (args:List PV):PM :=
 zDX (H f).mode args fun bs=>zCo (H f).mode bs fun as=>zQT d f as (zEa (H f).mode bs fun as=>zQT d f as .fail)
def zWE:List PV→Option PV
 | .int k a::r=>(r.foldl (fun m p=>match m,p with
  | some m,.int k' b=>if k=k' then some (if b>m then b else m) else none
  | _,_=>none) (some a)).map (.int k)
 | _=>none
def zW4:List PV→Option PV
 | .int k a::r=>(r.foldl (fun m p=>match m,p with
  | some m,.int k' b=>if k=k' then some (if b<m then b else m) else none
  | _,_=>none) (some a)).map (.int k)
 | _=>none
def zIb {α:Type} (x:Option α) (k:α→PM):PM :=
 match x with
 | some a=>k a
 | none => .fail
def zT1:PV→(Bool→PM)→PM
 | .bool b,k=>k b
 | _,_ => .fail
def zGf:PV→(Nat→PM)→PM
 | .int _ n,k=>if 0≤n then k n.toNat else .fail
 | _,_ => .fail
def zAY:Nat:=4294967296
def zGc (r:Nat) (pre:zAO):Nat→List PV→PM→PM
 | _,[],k=>k
 | i,y::ys,k=>zDM r pre i 0 y.cells (.wcells r pre i 0 y.cells (zGc r pre (i+1) ys k))
def zK0 (d:Option Nat) (r:Nat) (pre:zAO) (z lo n s:Nat) (xs ys:List PV):PM :=
 bif Nat.blt 0 z&&Nat.beq z s&&Nat.ble (lo+n+ys.length) xs.length&&ys.all (fun y=>y.plain) then zGc r pre (lo+n) ys (put d (.bor r pre z lo (n+ys.length))) else .fail
def zK6 (d:Option Nat) (sz:Nat) (base:PV) (ys:List PV):PM :=
 bif ys.all (fun y=>Nat.beq y.cells.length sz&&y.cells.all fun q=>q.oneCell)&&(zBn ys).isEmpty then
 match base with
 | .bor r pre z lo n => .deep r pre fun q=>match q with
  | .own s xs =>
   bif Nat.beq s sz&&Nat.ble (lo+n) xs.length&&Nat.ble (xs.length+ys.length) zAY then
    bif Nat.beq (lo+n) xs.length then
     bif Nat.beq lo 0 then .wnode r pre .bad (put d (.own sz (xs++ys))) else .fail
    else zK0 d r pre z lo n s xs ys
   else .fail
  | _ => .fail
 | .nils _=>bif Nat.ble ys.length zAY then put d (.own sz ys) else .fail
 | _ => .fail
 else .fail
def zNh (x:Operand) (k:List PV→PM):PM :=
 match x with
 | .tmp t => .get t fun p=>match p with
  | .own _ xs => .set t .bad (k xs)
  | _ => .view t fun p=>zGN p fun xs=>if xs.all (fun x=>x.plain) then k xs else .fail
 | x=>opd x fun p=>zGN p fun xs=>if xs.all (fun x=>x.plain) then k xs else .fail
def zQm (d:Option Nat) (z:Option PV×Option Nat) (p:PV):PM :=
 match p,d,z.1,z.2 with
 | .bor r pre z lo n,none,some q,some s=>bif Nat.blt 0 z&&Nat.beq z s&&Nat.beq q.cells.length s&&q.plain then zGc r pre lo (List.replicate n q) .ok else .fail
 | .sl [],none,some _,some _ => .ok
 | .nils _,none,some _,some _ => .ok
 | _,_,_,_ => .fail
def zBm (d:Option Nat) (b:Builtin) (ts:List TypeId) (args:List Operand):PM :=
 match b,args,ts with
 | .len,[x],t::_=>opd x fun p=>match P.underlying t with
  | some (.array n _)=>put d (.int .i64 n)
  | some (.slice _)=>match lenOf p with
   | some n=>put d (.int .i64 n)
   | none => .fail
  | _ => .fail
 | .append,[x,y],[t,t2]=>bif (zBM P t2).isNone then .fail else match (zBM P t).bind (szT P),(zBM P t).bind (zHK P),(zBM P t).bind (zCx P) with
  | some sz,some by_,some z=>if by_≤16384∧z.cells.length=sz then opd x fun base=>zNh y fun ys=>zK6 d sz base ys else .fail
  | _,_,_ => .fail
 | .copy,[x,y],t::_=>zIb ((zBM P t).bind (szT P)) fun s=>opd x fun p=>opd y fun q=>zGN q fun ys=>match p with
  | .bor r pre z lo n=>bif Nat.beq z s&&Nat.blt 0 z&&Nat.ble ys.length n&&ys.all (fun y=>y.plain&&Nat.beq y.cells.length s) then zGc r pre lo ys (put d (.int .i64 ys.length)) else .fail
  | _ => .fail
 | .clear,[x],t::_=>opd x fun p=>zQm d ((zBM P t).bind (zCx P),(zBM P t).bind (szT P)) p
 | .max,xs,_=>zSv xs fun ps=>match zWE ps with
  | some v=>put d v
  | none => .fail
 | .min,xs,_=>zSv xs fun ps=>match zW4 ps with
  | some v=>put d v
  | none => .fail
 | _,_,_ => .fail
def zFj (place:Nat→Option (Nat×Nat)):List PV→List (Nat×PV)→Option (List PV)
 | z,[]=>some z
 | z,(i,v)::r=>match place i with
  | some (off,n)=>if v.cells.length=n∧off+n≤z.length∧v.whole=true then zFj place (z.take off++v.cells++z.drop (off+n)) r else none
  | none=>none
def zOC (place:Nat→Option (Nat×Nat)) (z:List PV) (ps:List (Nat×Operand)) (k:List PV→PM):PM :=
 zTE (ps.map (·.2)) fun vs=>match zFj place z ((ps.map (·.1)).zip vs) with
  | some cs=>k cs
  | none => .fail
def zMh (n:Nat) (z:PV) (ps:List (Nat×PV)):List PV :=
 ps.foldl (fun xs (i,v)=>xs.set i v) (List.replicate n z)
def zLd (t:TypeId) (i:Nat):Option Field :=
 match P.underlying t with
 | some (.struct fs)=>fs[i]?
 | _=>none
def zOU (p:PV) (off:Nat) (sh:Option Nat):Option PV :=
 match p with
 | .ref q=>match sub q off sh with
  | some x=>bif sh.isSome||x.oneCell then some (.ref x) else none
  | none=>none
 | .addr r pre i c (some _)=>some (.addr r pre i (c+off) sh)
 | _=>none
def zCd (p:PV) (off:Nat) (sh:Option Nat):Option PV :=
 match sh with
 | some 0=>none
 | sh=>zOU p off sh
def zSi (x:Option Operand) (n:Nat) (k:Nat→PM):PM :=
 match x with
 | some x=>opd x fun p=>zGf p k
 | none=>k n
def zO8 (d:Option Nat) (s:Nat) (p:PV) (l h:Nat):PM :=
 match p with
 | .sl xs=>bif Nat.ble l h&&Nat.ble h xs.length&&xs.all (fun x=>Nat.beq x.cells.length s) then put d (.sl ((xs.drop l).take (h-l))) else .fail
 | .bor r pre z a n =>
  bif Nat.beq z s&&Nat.ble l h then
   bif Nat.ble h n then put d (bif Nat.beq l 0||Nat.blt l h then .bor r pre z (a+l) (h-l) else .sl [])
   else .deep r pre fun q=>match q with
    | .own _ xs=>bif Nat.ble (a+h) xs.length then put d (bif Nat.beq l 0||Nat.blt l h then .bor r pre z (a+l) (h-l) else .sl []) else .fail
    | _ => .fail
  else .fail
 | _ => .fail
def zRF (d:Option Nat) (n s:Nat) (sh:Option Nat) (p:PV) (l h:Nat):PM :=
 bif Nat.ble l h&&Nat.ble h n&&(Nat.beq l 0||Nat.blt l n) then
  match p with
  | .addr r pre i c _=>put d (.bsl r pre i (c+l*s) s sh.isSome (h-l))
  | .ref (.agg cs)=>bif Nat.ble (n*s) cs.length&&zCg sh.isSome s (h-l) ((cs.drop (l*s)).take ((h-l)*s))&&(zBn cs).isEmpty then put d (.sl (zCf sh.isSome s (h-l) ((cs.drop (l*s)).take ((h-l)*s)))) else .fail
  | _ => .fail
 else .fail
def zIB (d:Option Nat) (t:TypeId) (x:Operand) (lo hi mx:Option Operand):PM :=
 match mx with
 | some m=>opd x fun p=>match p,P.underlying t with
  | .bor _ _ _ _ n,some (.slice e)=>zIb (szT P e) fun _=>zSi (some m) n fun m=>match hi with
   | some hi=>zSi (some hi) n fun h=>zSi lo 0 fun l=>bif Nat.ble l h&&Nat.ble h m&&Nat.ble m n then put d .bad else .fail
   | none => .fail
  | _,_ => .fail
 | none=>opd x fun p=>match P.underlying t with
  | some (.array n e)=>match szT P e,shT P e with
   | some s,some sh=>zSi hi n fun h=>zSi lo 0 fun l=>zRF d n s sh p l h
   | _,_ => .fail
  | some (.slice e)=>match szT P e,lenOf p with
   | some s,some n=>zSi hi n fun h=>zSi lo 0 fun l=>zO8 d s p l h
   | _,_ => .fail
  | _ => .fail
def zNK (p:PV) (k:PV→PM) (k2:PM):PM :=
 match p with
 | .bor r pre _ lo n => .deep r pre fun q=>match q with
  | .own sz xs=>bif Nat.beq lo 0&&Nat.beq n xs.length then .wnode r pre .bad (k (.own sz xs)) else k2
  | _=>k2
 | .bmap r pre => .deep r pre fun q=>match q with
  | .omap es => .wnode r pre .bad (k (.omap es))
  | _=>k2
 | p=>k p
def zLS (p:PV) (k:PV→PM):PM:=zNK p k (zLG zAb zDs p k)
def zJD:List PV→(List PV→PM)→PM
 | [],k=>k []
 | p::ps,k=>zNK p (fun q=>zJD ps fun qs=>k (q::qs)) .fail
def zFI (tk:Bool) (p:PV) (k:PV→PM):PM :=
 match p with
 | .agg cs=>bif tk then zJD cs fun cs=>k (.agg cs) else bif cs.any (fun c=>match c with | .bor .. | .bmap .. | .bsl .. => true | _=>false) then zLG zAb zDs p k else k p
 | .bsl .. => zLG zAb zDs p k
 | .bor .. | .bmap .. => bif tk then zLS p k else zLG zAb zDs p k
 | p=>k p
def zF5 (tk:Bool):List PV→(List PV→PM)→PM
 | [],k=>k []
 | p::ps,k=>zFI tk p fun q=>zF5 tk ps fun qs=>k (q::qs)
def zQw (r:Nat) (pre:zAO) (i c:Nat):PV→Option Nat
 | .bor r' q z 0 n=>if r'=r&&q=pre++[(i,c)] then some n else none
 | _=>none
def zHS (r:Nat) (pre:zAO) (i c:Nat) (v:PV):PM :=
 bif (!v.heavy||v.ways.all (fun w => !(zAH r pre w.1 w.2&&Nat.blt pre.length w.2.length)))&&v.cells.all (fun q=>q.oneCell) && !v.cells.isEmpty then zDM r pre i c v.cells (.wcells r pre i c v.cells .ok) else .fail
def zIe (tk:Bool) (r:Nat) (pre:zAO) (v:PV) (k:PV→PM):PM :=
 bif pre.isEmpty && !tk then .view r fun q=>(match q with | .addr .. => k v | _=>zFI tk v k) else zFI tk v k
def zHZ (tk:Bool) (r:Nat) (pre:zAO) (i c:Nat) (v:PV):PM :=
 match zQw r pre i c v with
 | some m => .deep r (pre++[(i,c)]) fun q=>match q with
  | .own s xs=>bif Nat.ble m xs.length then .wnode r (pre++[(i,c)]) .bad (zHS r pre i c (.own s ((xs.drop 0).take m))) else .fail
  | _ => .fail
 | none=>zIe tk r pre v fun v=>zHS r pre i c v
def zOE (fz tk:Bool) (t:TypeId) (a x:Operand):PM :=
 opd a fun pa=>match pa,x with
 | .addr r pre i c _,.const (.slice none 0 0)=>zIb ((zBM P t).bind (szT P)) fun s=>if szT P t=some 1 then zHZ tk r pre i c (.own s []) else .fail
 | pa,x=>match pa,shT P t,szT P t with
 | .addr r pre i c _,some sh,some n=>(bif fz&&tk then opd x else zO9 x) fun v =>
  bif Nat.beq v.cells.length n&&v.isAgg==sh.isSome then zHZ (tk && !fz) r pre i c (bif fz && !tk then zAP v else v) else .fail
 | _,_,_ => .fail
def zS9 (d:Option Nat) (t:TypeId):PM :=
 match (zBM P t).bind (szT P) with
 | some s=>put d (.own s [])
 | none => .fail
def zMX (d:Option Nat) (t:TypeId) (s:Nat):PM :=
 match P.underlying t,d with
 | some (.tuple ts),some d' => .get s fun m=>match m with
  | .tup ps=>if ps.length=ts.size∧ts.size≤16 then .set d' .bad (zFp s d' 0 ts.size) else .fail
  | _ => .fail
 | _,_=>opd (.tmp s) (put d)
def zQJ (d:Option Nat) (t:TypeId) (x:Operand):PM :=
 match x with
 | .const (.slice none 0 0)=>zS9 P d t
 | .tmp s=>zMX P d t s
 | x=>opd x (put d)
def zFy (d:Option Nat) (p:PV):PM :=
 match d,p with
 | some d',.bor r [] z lo n=>if r=d' then .get r fun root=>match root with
   | .own sz xs=>bif Nat.ble (lo+n) xs.length then .kill r [] (.set r (.own sz ((xs.drop lo).take n)) .ok) else .fail
   | _ => .fail
  else put d p
 | _,_=>put d p
def zFV (tk nl:Bool) (d:Option Nat) (t:TypeId) (x:Operand):PM :=
 match x with
 | .const (.slice none 0 0)=>bif nl then zIb ((zBM P t).bind (szT P)) fun s=>put d (.nils s) else zS9 P d t
 | x=>zO9 x fun p=>bif tk then zLS p (zFy d) else zFy d p
def zT2 (d:Option Nat) (c a b:Operand):PM:=opd c fun p=>zT1 p fun t=>opd (if t then a else b) (put d)
def zRN (t:TypeId):PV→PV
 | .nils k=>match (zBM P t).bind (szT P) with
  | some s => .own s []
  | none => .nils k
 | z=>z
def zRP (d:Option Nat) (t:TypeId):PM:=zIb (zCx P t) fun z=>put d (.box (zRN P t z))
def zTz (d:Option Nat) (t:TypeId) (x:Operand):PM:=zO9 x fun p=>match shT P t,szT P t with
 | some sh,some n=>if p.cells.length=n&&p.isAgg=sh.isSome&&p.whole then put d (.box p) else .fail
 | _,_ => .fail
def zNd (d:Option Nat) (t:TypeId) (ps:List (Nat×Operand)):PM :=
 match P.underlying t,(zCx P t).map PV.cells with
 | some (.struct fs),some z=>bif fs.all (fun f=>(szT P f.type).isSome) then zOC (fun i=>(fs[i]?).bind fun f=>(szT P f.type).map fun n=>(f.offset,n)) z ps (fun cs=>put d (.agg cs)) else .fail
 | some (.array _ e),some z=>zIb (szT P e) fun n=>zOC (fun i=>some (i*n,n)) z ps fun cs=>put d (.agg cs)
 | _,_ => .fail
def zW9:Option PV→Option Nat
 | some (.own s [])=>some s
 | _=>none
def zXb (nz:Option Nat) (x:Operand) (k:PV→PM):PM :=
 match nz,x with
 | some s,.const (.slice none 0 0)=>k (.own s [])
 | _,x=>zO9 x k
def zPZ (nz:Option Nat):List Operand→(List PV→PM)→PM
 | [],k=>k []
 | x::xs,k=>zXb nz x fun p=>zPZ nz xs fun ps=>k (p::ps)
def zDA (tk:Bool) (d:Option Nat) (t:TypeId) (n:Nat) (ps:List (Nat×Operand)):PM :=
 match zBM P t with
 | some e=>match szT P e,zCx P e with
  | some s,some z=>if n*s≤65536&&Nat.beq z.cells.length s&&ps.all (fun x=>x.1<n) then zPZ (zW9 (zCx P e)) (ps.map (·.2)) fun vs=>zF5 tk vs fun vs =>
    if (zBn vs).isEmpty&&vs.all (fun v=>v.cells.length=s&&v.isAgg=z.isAgg&&v.whole) then put d (.own s (zMh n z ((ps.map (·.1)).zip vs))) else .fail
   else .fail
  | _,_ => .fail
 | none => .fail
def zPg (d:Option Nat) (sh:Option Nat) (p:PV):PM :=
 match p with
 | .ref q=>if q.isAgg=sh.isSome&&q.cells.length=sh.getD 1 then put d q else .fail
 | .addr r pre i c _=>zMJ r pre i c sh (put d)
 | _ => .fail
def zOP (tk:Bool) (d:Option Nat) (t:TypeId) (a:Operand):PM:=zIb (shT P t) fun sh=>opd a fun p =>
 bif tk then (match p with
  | .addr r pre i c _=>zMJ r pre i c sh fun v=>zLG zAb zDs v (put d)
  | p=>zPg d sh p) else zPg d sh p
def zYx (d:Option Nat) (p:PV):PM :=
 match p with
 | .addr .. | .ref _ | .func .. | .yld _=>put d p
 | _ => .fail
def zTd (d:Option Nat) (op:BinOp) (t:TypeId) (x y:Operand):PM:=opd x fun p=>opd y fun q=>zIb (zHM P op t p q) (put d)
def unV (d:Option Nat) (op:UnOp) (p:PV):PM :=
 match op,p with
 | .not,.bool b=>put d (.bool !b)
 | .neg,.int k n=>put d (.int k (k.wrap (0-n)))
 | _,_ => .fail
def zQb (d:Option Nat) (t:TypeId) (p:PV):PM :=
 match P.underlying t,p with
 | some (.int k),.int _ n=>put d (.int k (k.wrap n))
 | _,_ => .fail
def zKj (d:Option Nat) (f:FuncId) (first caps:List Operand):PM:=zSv first fun a=>zSv caps fun b=>put d (.func f a b)
def zE7 (d:Option Nat) (t:TypeId) (l c:Operand):PM :=
 opd l fun l=>zGf l fun l=>opd c fun c=>zGf c fun c=>match zBM P t with
 | some e=>match zCx P e,szT P e,zHK P e with
  | some z,some s,some b=>if l≤c∧c≤zAY∧b≤16384∧z.cells.length=s then put d (.own s (List.replicate l z)) else .fail
  | _,_,_ => .fail
 | none => .fail
def zJm (d:Option Nat) (t:TypeId) (x:Operand) (i:Nat):PM :=
 opd x fun p=>zIb (zLd P t i) fun f=>zIb (shT P f.type) fun sh=>zIb (zCd p f.offset sh) (put d)
def zSd (d:Option Nat) (t:TypeId) (x:Operand) (i:Nat):PM :=
 opd x fun p=>zIb (zLd P t i) fun f=>zIb (shT P f.type) fun sh=>zIb (sub p f.offset sh) (put d)
def zOZ (d:Option Nat) (n:Nat) (e:TypeId) (p:PV) (i:Nat):PM :=
 match szT P e,shT P e with
 | some s,some sh=>if i<n then zIb (zCd p (i*s) sh) (put d) else .fail
 | _,_ => .fail
def zSe (d:Option Nat) (e:TypeId) (p:PV) (i:Nat):PM :=
 match p with
 | .sl xs=>zIb (xs[i]?) fun x=>if szT P e=some x.cells.length then put d (.ref x) else .fail
 | .bor r pre z lo n=>match shT P e with
  | some sh=>if i<n∧szT P e=some z then put d (.addr r pre (lo+i) 0 sh) else .fail
  | none => .fail
 | .bsl r pre j c s ag n=>if i<n∧szT P e=some s then put d (.addr r pre j (c+i*s) (if ag then some s else none)) else .fail
 | _ => .fail
def zE0 (d:Option Nat) (t:TypeId) (x i:Operand):PM :=
 opd x fun p=>opd i fun i=>zGf i fun i=>match P.underlying t with
 | some (.array n e)=>zOZ P d n e p i
 | some (.slice e)=>zSe P d e p i
 | _ => .fail
def zLt (d:Option Nat) (t:TypeId) (x i:Operand):PM :=
 opd x fun p=>opd i fun i=>zGf i fun i=>match P.underlying t with
 | some (.array n e)=>match szT P e,shT P e with
  | some s,some sh=>if i<n then zIb (sub p (i*s) sh) (put d) else .fail
  | _,_ => .fail
 | _ => .fail
def PV.flat:PV→Bool
 | .agg cs=>cs.all PV.num
 | p=>p.num
def PV.lone0:PV→Bool
 | .int .. | .bool .. | .nilp | .nilf | .nilm | .nn | .nils _ | .sl .. | .map .. => true
 | _=>false
def PV.lone:PV→Bool
 | .agg cs=>cs.all PV.lone0
 | p=>p.lone0
def zJK:PV→PV
 | .own _ [] => .sl []
 | p=>p
def zTm (ok:TypeId→PV→Bool) (sh:TypeId→Option (Option Nat)) (p:PV):List Field→Bool
  | []=>true
  | f :: fs => (if f.name = "_" then true else match sh f.type with
    | some s=>match sub p f.offset s with
      | some a=>ok f.type a
      | none=>false
    | none=>false)&&zTm ok sh p fs
def zTs (ok:PV→Bool) (sh:Option Nat) (sz:Nat) (p:PV):Nat→Nat→Bool
 | _,0=>true
 | i,n+1=>(match sub p (i*sz) sh with
  | some a=>ok a
  | none=>false)&&zTs ok sh sz p (i+1) n
def zPb:Nat→TypeId→PV→Bool
 | 0,_,_=>false
 | n + 1,t,p =>
  match P.underlying t,p with
  | some (.int _),.int .. => true
  | some .bool,.bool _=>true
  | some (.struct fs),.agg xs=>zTm (zPb n) (shT P) (.agg xs) fs.toList
  | some (.array len e),.agg xs=>match szT P e,shT P e with
   | some sz,some sh=>zTs (zPb n e) sh sz (.agg xs) 0 len
   | _,_=>false
  | _,_=>false
def zC1 (kt:TypeId) (key:PV):List (PV×PV)→Nat→Option (Option Nat)
 | [],_=>some none
 | (k,_)::es,i=>match eqT P 20 kt key k with
  | some true=>match zFs key.cells k.cells with
   | some true=>some (some i)
   | _=>none
  | some false=>zC1 kt key es (i+1)
  | none=>none
def zIC (d:Option Nat) (kt:TypeId) (z key:PV) (ok:Bool) (es:List (PV×PV)):PM :=
 match zC1 P kt key es 0 with
 | some (some i)=>match es[i]? with
  | some (_,v)=>bif v.lone then zDg d (if ok then .tup [v,.bool true] else v) else .fail
  | none => .fail
 | some none=>zDg d (if ok then .tup [z,.bool false] else z)
 | none => .fail
def zTn (d:Option Nat) (kt:TypeId) (z key:PV) (ok:Bool) (m:PV):PM :=
 match m with
 | .nilm=>zIC P d kt z key ok []
 | .map es=>zIC P d kt z key ok es
 | .bmap r pre => .deep r pre fun q=>match q with
  | .omap es=>zIC P d kt z key ok es
  | _ => .fail
 | _ => .fail
def zIq (d:Option Nat) (t:TypeId) (m x:Operand) (ok:Bool):PM :=
 opd m fun m=>opd x fun key=>match P.underlying t with
 | some (.map kt e)=>bif zPb P 20 kt key then zIb (zCx P e) fun z=>bif (zJK z).lone then zTn P d kt (zJK z) key ok m else .fail else .fail
 | _ => .fail
def zLO (kt:TypeId) (key v m:PV):PM :=
 match m with
 | .bmap r pre=>bif v.lone then .deep r pre fun q=>match q with
  | .omap es=>match zC1 P kt key es 0 with
   | some (some i) => .wnode r pre (.omap (es.modify i fun _=>(key,v))) .ok
   | some none => .wnode r pre (.omap (es++[(key,v)])) .ok
   | none => .fail
  | _ => .fail else .fail
 | _ => .fail
def zEY (t:TypeId) (m x y:Operand):PM:=opd m fun m=>opd x fun key=>match P.underlying t with
 | some (.map kt _)=>bif zPb P 20 kt key&&key.flat then zO9 y fun v=>zLG zAb zDs v fun v=>zLO P kt key (zAP v) m else .fail
 | _ => .fail
def zO4 (d:Option Nat) (kt:TypeId) (z key m:PV):PM :=
 match m with
 | .bmap r pre => .deep r pre fun q=>match q with
  | .omap es=>match zC1 P kt key es 0 with
   | some (some i)=>match es[i]? with
    | some (_,v)=>bif v.lone then .wnode r pre (.omap (es.modify i fun _=>(key,v))) (zDg d (.tup [v,.int .i64 i])) else .fail
    | none => .fail
   | some none => .wnode r pre (.omap (es++[(key,z)])) (zDg d (.tup [z,.int .i64 es.length]))
   | none => .fail
  | _ => .fail
 | _ => .fail
def zF4 (d:Option Nat) (t:TypeId) (m x:Operand):PM:=opd m fun m=>opd x fun key=>match P.underlying t with
 | some (.map kt el)=>bif zPb P 20 kt key&&key.flat then zIb (zCx P el) fun z=>bif (zJK z).lone then zO4 P d kt (zJK z) key m else .fail else .fail
 | _ => .fail
def zIj (i:Nat) (v m:PV):PM :=
 match m with
 | .bmap r pre=>bif v.lone then .deep r pre fun q=>match q with
  | .omap es=>match es[i]? with
   | some (k,_) => .wnode r pre (.omap (es.modify i fun _=>(k,v))) .ok
   | none => .fail
  | _ => .fail else .fail
 | _ => .fail
def zEk (m s y:Operand):PM:=opd m fun m=>opd s fun s=>zGf s fun i=>zO9 y fun v=>zLG zAb zDs v fun v=>zIj i (zAP v) m
def zJe (d:Option Nat) (s i:Nat):PM := .get s fun m=>match m with
 | .tup ps=>bif Nat.blt i ps.length then .get (zBp s i) fun p=>bif p.heavy then .set (zBp s i) .bad (put d p) else put d p else .fail
 | _ => .fail
def zSy (d:Option Nat) (args:List Operand) (g:PV):PM :=
 match g with
 | .func g first caps=>zSv args fun as=>zNF H d g (first++as++caps)
 | _ => .fail
def zI6 (d:Option Nat) (c:Call):PM :=
 match c.callee with
 | .builtin b=>zBm P d b c.argTypes.toList c.args.toList
 | .value f=>opd f (zSy H d c.args.toList)
 | _ => .fail
def opM (fz tk nl:Bool) (o:Oper):PM :=
 match o.op with
 | .move x=>zQJ P o.dst o.type x
 | .assign x=>zFV P tk nl o.dst o.type x
 | .pick c a b=>zT2 o.dst c a b
 | .alloc t=>zRP P o.dst t
 | .box t x=>zTz P o.dst t x
 | .build t ps=>zNd P o.dst t ps.toList
 | .buildSlice t n ps=>zDA P tk o.dst t n ps.toList
 | .load t a=>zOP P tk o.dst t a
 | .store t a x=>zOE P fz tk t a x
 | .nilCheck x=>opd x (zYx o.dst)
 | .binOp op t x y _=>zTd P o.dst op t x y
 | .unOp op _ x=>opd x (unV o.dst op)
 | .convert _ t x=>opd x (zQb P o.dst t)
 | .makeFunc (.func f) first caps=>zKj o.dst f first.toList caps.toList
 | .makeMap _ none=>put o.dst (.omap [])
 | .makeSlice t l c=>zE7 P o.dst t l c
 | .slice t x lo hi mx=>zIB P o.dst t x lo hi mx
 | .fieldAddr t x i=>zJm P o.dst t x i
 | .field t x i=>zSd P o.dst t x i
 | .indexAddr t x i=>zE0 P o.dst t x i
 | .index t x i=>zLt P o.dst t x i
 | .lookup t m x ok=>zIq P o.dst t m x ok
 | .mapUpdate t m x y=>zEY P t m x y
 | .mapEntry t m x=>zF4 P o.dst t m x
 | .entryStore _ m s x=>zEk m s x
 | .extract (.tmp s) i=>zJe o.dst s i
 | .call c=>zI6 P H o.dst c
 | _ => .fail
def zFo (ops:Array Oper) (fz tk nl:Bool) (o:Oper):PM :=
 match o.guard with
 | none=>opM P H fz tk nl o
 | some (j,want)=>match (ops[j]?).bind (·.dst) with
  | some t => .get t fun p=>match p with
   | .bool b=>if b=want then opM P H fz tk nl o else put o.dst .und
   | .und=>put o.dst .und
   | _ => .fail
  | none => .fail
structure Log where
 xs:List (List PV)
 k:Int
 at_:Nat
 deriving Inhabited
def zPJ (e:Env):Operand→PV
 | .tmp t=>view t (e.get t)
 | .const v=>zEq v
 | _ => .bad
def zB7 (e:Env) (o:Oper):Option (Nat×List PV) :=
 match o.op with
 | .call c=>match c.callee with
  | .value (.tmp t)=>match e.get t with
   | .yld h=>some (h,c.args.toList.map (zPJ e))
   | _=>none
  | _=>none
 | _=>none
def zLv (ops:Array Oper) (e:Env) (o:Oper):Option Bool :=
 match o.guard with
 | none=>some true
 | some (j,want)=>match (ops[j]?).bind (·.dst) with
  | some t=>match e.get t with
   | .bool b=>some (b==want)
   | .und=>some false
   | _=>none
  | none=>none
def zBL (orc:zAC) (ops:Array Oper) (o:Oper) (h:Nat) (args:List PV) (l:Log) (e:Env):Option (Env×Option Log) :=
 match zLv ops e o with
 | some true=>bif args.all PV.flat&&l.k != 0&&Nat.beq h l.at_ then
   (bif l.k==1 then (put o.dst (.bool false)).run orc (e.forget zAb) else (put o.dst (.bool true)).run orc e).map fun e'=>(e',some ⟨l.xs++[args],l.k-1,l.at_⟩)
  else none
 | some false=>((put o.dst .und).run orc e).map fun e'=>(e',some l)
 | none=>none
def zCF (orc:zAC) (fz tk nl:Bool) (ops:Array Oper) (o:Oper) (e:Env) (lg:Option Log):Option (Env×Option Log) :=
 match lg with
 | none=>((zFo P H ops fz tk nl o).run orc e).map fun e'=>(e',none)
 | some l=>match zB7 e o with
  | some (h,args)=>zBL orc ops o h args l e
  | none=>((zFo P H ops fz tk nl o).run orc e).map fun e'=>(e',some l)
def zEc (orc:zAC) (fz tk nl:Bool) (ops:Array Oper) (o:Oper) (e:Env) (lg:Option Log):Option (Env×Option Log×Tok) :=
 match lg with
 | none=>((zFo P H ops fz tk nl o).runT orc e).map fun x=>(x.1,none,x.2)
 | some l=>match zB7 e o with
  | some (h,args)=>(zBL orc ops o h args l e).map fun x=>(x.1,x.2,{all:=true})
  | none=>((zFo P H ops fz tk nl o).runT orc e).map fun x=>(x.1,some l,x.2)
def zA7 (orc:zAC) (fzs tks:List Nat) (nl:Bool) (ops:Array Oper):List Oper→Nat→Env→Option Log→Option (Env×Option Log)
 | [],_,e,lg=>some (e,lg)
 | o::l,i,e,lg=>match zCF P H orc (fzs.contains i) (tks.contains i) nl ops o e lg with
  | some (e',lg')=>zA7 orc fzs tks nl ops l (i+1) e' lg'
  | none=>none
def zH2 (acc:List Nat) (o:Oper):Nat:=o.after.toList.foldl (fun s e=>if Region.binds .any e then s ||| 2 ^ e.on ||| acc.getD e.on 0 else s) 0
def zFQ (b:Nat) (t:Tok):Nat→List Tok→Bool
 | _,[]=>true
 | j,u::us=>(b.testBit j || !zPQ u t)&&zFQ b t (j+1) us
def zCk (orc:zAC) (fzs tks:List Nat) (nl:Bool) (ops:Array Oper):List Oper→Nat→List Nat→List Tok→Env→Option Log→Option (Env×Option Log)
 | [],_,_,_,e,lg=>some (e,lg)
 | o :: l,i,acc,ts,e,lg =>
  match zEc P H orc (fzs.contains i) (tks.contains i) nl ops o e lg with
  | some (e',lg',t) =>
   bif o.after.toList.all (fun e => !Region.binds .any e||Nat.blt e.on i)&&zFQ (zH2 acc o) t 0 ts then zCk orc fzs tks nl ops l (i+1) (acc++[zH2 acc o]) (ts++[t]) e' lg' else none
  | none=>none
inductive X where
 | norm | ex (id:Nat) | ret
 deriving DecidableEq
def zMQ (l:List Nat) (s:Nat):Bool:=l.contains (if 2000000≤s then (s-2000000) / 16 else s)
def Env.drop (e:Env) (l:List Nat):Env :=
 e.filter fun x => !zMQ l x.1
def Env.put (e:Env) (k:Nat) (v:PV):Env :=
 match v with
 | .bad=>e.filter fun x => !Nat.beq x.1 k
 | v=>e.set k v
def Env.norm:Env→Env
 | []=>[]
 | (k,v)::e=>(Env.norm e).put k v
def zAM:Code→Nat
 | .region id _ _=>id
 | .seq a _=>zAM a
 | .block _ b=>zAM b
 | .loop b=>zAM b
 | _=>0
def zBI:Code→List Nat
 | .region _ ops _=>ops.toList.filterMap (·.dst)
 | .seq a b=>zBI a++zBI b
 | .cond _ a b=>zBI a++zBI b
 | .block _ b=>zBI b
 | .loop b=>zBI b
 | .scope b=>zBI b
 | _=>[]
def zCh:List Tmp→List PV→Env→Option Env
 | [],[],e=>some e
 | t::ts,v::vs,e=>if (e.get t).heavy then none else zCh ts vs (e.set t v)
 | _,_,_=>none
def zEd:List Nat→Env→Option Env
 | [],e=>some e
 | r::R,e=>bif Nat.blt r zAb then match e.frz r [] with
  | some e'=>zEd R e'
  | none=>none
  else none
def zVY (R:List Nat) (e:Env):Env :=
 match zEd R e with
 | some e'=>e'
 | none=>e
def zCJ (e:Env) (R:List Nat):List Nat:=R++(e.filter fun x=>x.2.heavy && !R.contains x.1&&x.2.ways.any fun w=>R.contains w.1).map (·.1)
def zFT (e:Env) (R:List Nat):Bool:=R.all fun r=>(e.get r).ways.all fun w=>R.contains w.1
def after (nt:Nat) (R ds:List Nat) (e0 e:Env):Env:=e0.map fun x =>
 (x.1,bif R.contains x.1 || !x.2.heavy&&x.2.ways.all (fun w=>R.contains w.1) then x.2 else bif !(Nat.blt x.1 nt && !ds.contains x.1||Nat.ble zAm x.1&&Nat.blt x.1 zAx) then .bad else bif (R.isEmpty||(e.get x.1).free) && !(e.get x.1).isTup then e.get x.1 else .bad)
def zC0 (nt:Nat) (run:Code→Env→Option (X×Env)) (ps:List Tmp) (assign body:Code) (R ds:List Nat):List (List PV)→Env→Nat→Option (Option (Nat×X)×Env)
 | [],e,_=>some (none,e)
 | x :: xs,e,j =>
  let round (e:Env):Option (X×Env):=match zCh ps x e with
   | some e1=>match run assign e1 with
    | some (.norm,e2)=>run body e2
    | _=>none
   | none=>none
  match round e with
  | some (.norm,e3)=>match R with
   | []=>zC0 nt run ps assign body R ds xs (after nt [] ds e e3) (j+1)
   | r :: R=>match (bif zFT e (zCJ e (r::R)) then zEd (zCJ e (r::R)) e else none) with
    | some e1=>match round e1 with
     | some (.norm,e3)=>zC0 nt run ps assign body (r::R) ds xs (after nt (zCJ e (r::R)) ds e e3) (j+1)
     | _=>none
    | none=>none
  | some (r,e3)=>some (some (j+1,r),after nt [] ds e e3)
  | none=>none
def zDC (e:Env) (t:Nat):Option (FuncId×List PV×List PV×List Nat) :=
 match (zPp (view t (e.get t)) fun q l => .set 0 (.tup [q]) (.set 1 (.tup (l.map fun x => .int .i64 x.1)) .ok)).run (fun _ _ _=>none) e with
 | some e'=>match e'.get 0,e'.get 1 with
  | .tup [.func g first caps],.tup l=>some (g,first,caps,(l.filterMap fun | .int _ n=>some n.toNat | _=>none).eraseDups)
  | _,_=>none
 | none=>none
abbrev zCD:=FuncId→List PV→Nat→List PV→Int→Option (List (List PV))
abbrev All:=(Nat→Option (List (List PV)))→Option (List (List PV))
def zHi (nt:Nat) (yo:zCD) (al:All) (run:Code→Env→Option (X×Env)) (t:Tmp) (ps:List Tmp) (assign body:Code) (e:Env):Option (X×Env) :=
 match zDC e t with
 | some (g,first,caps,R) =>
  match al (fun i=>yo g first i caps (-1)) with
  | some xs=>match zC0 nt run ps assign body R (ps++zBI assign++zBI body) xs e 0 with
   | some (none,e')=>some (.norm,e')
   | some (some (j,_),_)=>match al (fun i=>yo g first i caps j) with
    | some ys=>match zC0 nt run ps assign body R (ps++zBI assign++zBI body) ys e 0 with
     | some (some (j',r),e')=>if j'=j∧ys.length=j then some (r,e') else none
     | _=>none
    | none=>none
   | none=>none
  | none=>none
 | none=>none
def exec (orc:zAC) (yo:zCD) (al:All) (nt:Nat) (h:FHint):Nat→Code→Env→Option Log→Option (X×Env×Option Log)
 | 0,_,_,_=>none
 | n + 1,c,e,lg=>match c with
  | .skip=>some (.norm,e,lg)
  | .region id ops draw=>match (if draw then zCk P H orc (h.frzs id) (h.take id) h.nils ops ops.toList 0 [] [] e lg else zA7 P H orc (h.frzs id) (h.take id) h.nils ops ops.toList 0 e lg) with
   | some (e',lg')=>some (.norm,(e'.drop (h.drop id)).norm,lg')
   | none=>none
  | .seq a b=>match exec orc yo al nt h n a e lg with
   | some (.norm,e',lg')=>exec orc yo al nt h n b e' lg'
   | r=>r
  | .cond c a b=>match c with
   | .tmp t=>match e.get t with
    | .bool true=>exec orc yo al nt h n a e lg
    | .bool false=>exec orc yo al nt h n b e lg
    | _=>none
   | .const (.bool true)=>exec orc yo al nt h n a e lg
   | .const (.bool false)=>exec orc yo al nt h n b e lg
   | _=>none
  | .block id b=>match exec orc yo al nt h n b e lg with
   | some (.ex id',e')=>some (if id'=id then .norm else .ex id',e')
   | r=>r
  | .loop b=>match exec orc yo al nt h n b (e.drop (h.loopDrop (zAM b))) lg with
   | some (.norm,e',lg')=>exec orc yo al nt h n (.loop b) e' lg'
   | r=>r
  | .exit id=>some (.ex id,zVY (h.ices id) e,lg)
  | .ret=>some (.ret,e,lg)
  | .label _=>some (.norm,e,lg)
  | .scope b=>exec orc yo al nt h n b e lg
  | .rangeFunc (.tmp t) ps assign body=>match lg with
   | none=>(zHi nt yo al (fun c e=>match exec orc yo al nt h n c e none with | some (x,e',none)=>some (x,e') | _=>none) t ps.toList assign body e).map fun x=>(x.1,x.2,none)
   | some _=>none
  | _=>none
def zQs (p:PV) (k:PV→PM) (k2:PM):PM :=
 match p with
 | .bor r pre _ lo n => .deep r pre fun q=>match q with
  | .own sz xs=>bif Nat.ble (lo+n) xs.length then .wnode r pre .bad (k (.own sz ((xs.drop lo).take n))) else k2
  | _=>k2
 | .addr r pre 0 0 _ => .deep r pre fun q=>match q with
  | .box q => .wnode r pre .bad (k (.box q))
  | _=>k2
 | .bmap r pre => .deep r pre fun q=>match q with
  | .omap es => .wnode r pre .bad (k (.omap es))
  | _=>k2
 | _=>k2
def zFM (frz:Bool) (p:PV) (k:PV→PM):PM :=
 bif frz||p.ways.any (fun w=>Nat.ble zAm w.1) then zLG zAm zDs p k else zQs p k (zLG zAm zDs p k)
def zCm (frz:Bool):List PV→(List PV→PM)→PM
 | [],k=>k []
 | p::ps,k=>zFM frz p fun q=>zCm frz ps fun qs=>k (q::qs)
def zGq (frz:Bool) (p:PV) (k:PV→PM):PM :=
 match p with
 | .agg cs=>zCm frz cs fun qs=>k (.agg qs)
 | p=>zFM frz p k
def zCA (frz:Bool):Nat→List ResultVar→PM
 | _,[] => .ok
 | j,.tmp t::rs => .view t fun p=>zGq frz p fun q=>lay (zAx+j) q (zCA frz (j+1) rs)
 | j,.cell a t::rs=>zIb (shT P t) fun sh => .view a fun p=>match p with
  | .addr r pre i c _=>zMJ r pre i c sh fun v=>zGq frz v fun q=>lay (zAx+j) q (zCA frz (j+1) rs)
  | _ => .fail
def zVO (e:Env) (n:Nat):PV :=
 if n=1 then e.get zAx else .tup ((List.range n).map fun j=>e.get (zAx+j))
def zA5 (args hid:List PV):Env :=
 (args.zipIdx.map fun (p,i)=>(i,p))++hid.zipIdx.map fun (p,j)=>(zAm+j,p)
def zOg (xs:List PV):Option (List Int):=xs.mapM fun | .int .i64 n=>some n | _=>none
def intrin (fn:Func) (w:Nat) (args hid:List PV):Option (PV×List PV) :=
 match w,args,hid with
 | 1,[.sl xs],[]=>match (fn.resultTypes[0]?).bind (fun t=>(zBM P t).bind (szT P)) with
  | some sz=>if xs.all (fun x=>x.plain&&x.cells.length=sz)&&xs.length≤zAY then some (.own sz xs,[]) else none
  | none=>none
 | 1,[.nils _],[]=>match (fn.resultTypes[0]?).bind (fun t=>(zBM P t).bind (szT P)) with
  | some sz=>some (.own sz [],[])
  | none=>none
 | 2,[.bor r [] 1 0 n],[.own 1 xs]=>match zOg xs with
  | some is=>if r=zAm∧n=is.length∧is.length≤zAY then some (.tup [],[.own 1 ((is.mergeSort (fun a b=>decide (a≤b))).map (.int .i64))]) else none
  | none=>none
 | 3,[.own sz xs,.int _ i,.int _ j],[] =>
  bif decide (0≤i)&&decide (i≤j)&&Nat.ble j.toNat xs.length then some (.own sz (xs.take i.toNat++xs.drop j.toNat),[]) else none
 | 5,[.int .u64 n],[]=>some (.int .i64 (if n≤0 then 0 else Nat.log2 n.toNat+1),[])
 | _,_,_=>none
def zJv (orc:zAC) (yo:zCD) (al:All) (n:Nat) (f:FuncId) (fn:Func) (body:Code) (args hid:List PV):Option (PV×List PV) :=
 bif Nat.ble args.length fn.ntmps&&Nat.ble hid.length 1000&&args.all (fun p => !p.isTup) then
  match exec P H orc yo al fn.ntmps (H f) n body (zA5 args hid) none with
  | some (.norm,e,none) | some (.ret,e,none) =>
   match (zCA P (H f).frz 0 fn.results.toList).run orc e with
   | some e'=>bif Nat.beq fn.results.size 1&&(e'.get zAx).isTup then none else some (zVO e' fn.results.size,(List.range hid.length).map fun j=>e'.get (zAm+j))
   | none=>none
  | _=>none
 else none
def zIQ (orc:zAC) (yo:zCD) (al:All) (n:Nat) (f:FuncId) (args hid:List PV):Option (PV×List PV) :=
 match P.funcs[f]? with
  | some fn=>if (H f).intr≠0 then intrin P fn (H f).intr args hid else match fn.body with
   | some body=>zJv P H orc yo al n f fn body args hid
   | none=>none
  | none=>none
def zW0 (orc:zAC) (yo:zCD) (al:All) (n:Nat) (f:FuncId) (first:List PV) (i:Nat) (caps:List PV) (k:Int):Option (List (List PV)) :=
 match P.funcs[f]? with
  | some fn=>match fn.body with
   | some body=>bif Nat.ble (first++PV.yld i::caps).length fn.ntmps&&fn.results.isEmpty&&(first++caps).all (fun p => !p.isTup)&&k != 0&&Nat.beq (H f).intr 0 then
     match exec P H orc yo al fn.ntmps (H f) n body (zA5 (first++PV.yld i::caps) []) (some ⟨[],k,i⟩) with
     | some (.norm,_,some l) | some (.ret,_,some l)=>some l.xs
     | _=>none
    else none
   | none=>none
  | none=>none
def zRw (al:All):Nat→zAC×zCD
 | 0=>(fun _ _ _=>none,fun _ _ _ _ _=>none)
 | n+1=>(fun f args hid=>zIQ P H (zRw al n).1 (zRw al n).2 al (n+1) f args hid,fun f first i caps k=>zW0 P H (zRw al n).1 (zRw al n).2 al (n+1) f first i caps k)
open Classical in
noncomputable def zB5:All:=fun x=>if h:∃ r,∀ i,x i=some r then some (Classical.choose h) else none
class Yo where
 yo:zCD
noncomputable def zCR [Yo]:Nat→zAC
 | 0=>fun _ _ _=>none
 | n+1=>fun f args hid=>zIQ P H (zCR n) Yo.yo zB5 (n+1) f args hid
end Go.Eng
namespace Go.Eng
def zAG:List (Nat×List Nat)→Nat→List Nat
 | [],_=>[]
 | (k,l)::r,i=>bif Nat.beq k i then l else zAG r i
def zWX:List (Nat×FHint)→Nat→FHint
 | [],_=>{}
 | (k,h)::r,i=>bif Nat.beq k i then h else zWX r i
end Go.Eng
namespace Go.Eng
open Go
def rg (a:Nat):Nat→List Nat
 | 0=>[]
 | n+1=>a::rg (a+1) n
def nh6:FHint:={drop:=zAG [(0,[0,6]),(1,[13,14]),(2,[16]),(3,[17,18,19]),(4,[22,23,24,27]),(5,[2]++rg 29 5++[36]),(6,[1]++rg 8 5++rg 37 21)]}
def zZc:FHint:={drop:=zAG [(0,[0,4]),(1,[1]++rg 7 20),(6,[6,35,36]),(8,[38])],loopDrop:=zAG [(4,[4,6]++rg 32 7)]}
def zZl:FHint:={drop:=zAG [(0,[0]),(1,[17]),(2,[20,21,24]),(3,rg 25 6),(4,[32,33,36]),(5,[9]++rg 37 6),(6,rg 3 6++[10]++rg 43 31),(8,[76,77,78,81]),(9,rg 82 6),(10,[2,89,90,93]),(11,[95,98]),(12,[4,6,8]++rg 10 5++rg 99 34)]}
def zY6:FHint:={drop:=zAG [(0,[0]),(1,rg 3 12)]}
def zZg:FHint:={drop:=zAG [(0,[0]),(1,rg 6 9),(4,[20,21]),(5,rg 22 6),(6,[28]),(7,[29])],loopDrop:=zAG [(3,[5]++rg 19 10)],take:=zAG [(5,[3]),(7,[1])]}
def zZb:FHint:={drop:=zAG [(0,[2]),(1,[4,5]),(2,[0,7,8,9])],take:=zAG [(3,[1])]}
def zZz:FHint:={drop:=zAG [(0,[2]),(4,[10,11]),(5,[12,13,14]),(6,[16])],loopDrop:=zAG [(3,[5]++rg 9 6++[16])],take:=zAG [(5,[2]),(7,[1])]}
def zZA:FHint:={drop:=zAG [(0,[0,6,7]),(1,[1,11,12,13,16]),(2,[17]),(3,[9,19]),(4,[2,8]++rg 20 4)],take:=zAG [(3,[2])]}
def zZj:FHint:={drop:=zAG [(0,[0,6,7]),(1,[1,2,14,15,16,19]),(2,[20]),(3,[9,22]),(7,[27,28]),(8,rg 29 7),(9,rg 37 4),(10,[42]),(11,[10,43])],loopDrop:=zAG [(6,[12]++rg 26 15++[42])],take:=zAG [(3,[2])]}
def zZt:FHint:={drop:=zAG [(0,[4]),(1,[0,1,5,6,7])]}
def zZE:FHint:={drop:=zAG [(0,[0,4,5]),(1,[1,12,13,16]),(2,[17]),(3,[7,19]),(4,[20,21]),(5,[22,23,24]),(6,[25,26]),(7,[28,29,30]),(8,[31]),(9,[32,33]),(11,[34]),(12,[8,35])],loopDrop:=zAG [(6,rg 25 10)]}
def zZm:FHint:={drop:=zAG [(0,[0,4,5]),(1,[1,12,13,16]),(2,[17]),(3,[7,19]),(4,[20,21]),(7,[24]),(8,rg 25 4),(9,[10,30,31]),(10,[32,33,34]),(11,[35]),(12,[6]++rg 36 4),(14,[8,41])],loopDrop:=zAG [(6,[10]++rg 23 13)]}
def zY7:FHint:={drop:=zAG [(0,[0,1,4]),(1,rg 5 26)]}
def zZq:FHint:={drop:=zAG [(0,[4]),(1,[0,1,5,6,7])]}
def zZD:FHint:={drop:=zAG [(0,[2]),(1,[4,5]),(2,[0,7,8,9])],take:=zAG [(3,[1])]}
def zZh:FHint:={drop:=zAG [(0,[0,3,8,9]),(1,[1,18,19,22]),(2,[24,25]),(3,[11,26]),(4,rg 28 10),(6,rg 38 6),(7,[44,45,46]),(8,rg 47 11),(9,[59,60]),(11,rg 62 11),(12,[2,73,74]),(13,[75,76,77]),(14,[78]),(15,[80,81]),(16,rg 82 4),(18,rg 88 9),(19,[16]++rg 98 4),(21,[102])],loopDrop:=zAG [(8,[8,9]++rg 47 26),(14,[16]++rg 78 25)],take:=zAG [(3,[2]),(12,[1]),(19,[1]),(22,[1])]}
def zZi:FHint:={drop:=zAG [(0,[0,4]),(1,[7,8]),(2,[9]),(3,[5,11]),(4,[12,13]),(7,[15,16,17]),(8,[19,20]),(9,rg 21 21)],loopDrop:=zAG [(7,[4]++rg 15 28)],take:=zAG [(3,[1])]}
def zZf:FHint:={drop:=zAG [(0,[0,6,7]),(1,[15,16,17,20]),(2,[21]),(3,[9,23]),(4,[24,25,26]),(6,[27]),(8,[31]),(9,[32,33,34]),(10,[35]++rg 37 5),(11,[42,43,44]),(12,[12,46,47,48]),(13,[50])],loopDrop:=zAG [(7,[12,13]++rg 30 19++[50])],take:=zAG [(3,[2]),(12,[2]),(14,[1])]}
def zZp:FHint:={drop:=zAG [(0,[0,6,7]),(1,rg 13 4),(2,[17]),(3,[8,19]),(4,[20,21,22]),(7,[24,25,26]),(8,[28,29]),(9,rg 30 9),(10,[12]++rg 40 6),(11,[47,48,49])],loopDrop:=zAG [(7,[12]++rg 24 26)],take:=zAG [(3,[2]),(12,[1])]}
def zZr:FHint:={drop:=zAG [(0,[4]),(1,[0,1,5,6,7,8])]}
def zZG:FHint:={drop:=zAG [(0,[3,4]),(1,[0,2]++rg 5 6)],mode:=[1],intr:=2}
def zZe:FHint:={drop:=zAG [(0,[0,8,9]),(1,[1,2,19,20,21,22,26,27]),(2,[28]),(3,[13,30]),(5,[31,32]),(7,[36]),(8,rg 37 7),(9,[15]++rg 46 8++[56]),(10,[17,57]),(12,[16,59,60]),(13,[62])],loopDrop:=zAG [(6,[8,9,15,16,17]++rg 35 26++[62])],take:=zAG [(3,[2]),(14,[1])]}
def zZn:FHint:={drop:=zAG [(0,[4]),(1,[0,1,5,6,7,8])]}
def zZN:FHint:={drop:=zAG [(0,[6]),(1,rg 8 6),(2,[14,15]),(4,[18,19]),(5,[1,2]++rg 20 6),(6,[7]++rg 27 5)],mode:=[1,0,0]}
def zZM:FHint:={drop:=zAG [(0,[2]),(1,[3]),(3,[0,5,6])],intr:=1}
def zZy:FHint:={drop:=zAG [(0,[4]),(1,[0,1,5,6,7])]}
def zZx:FHint:={drop:=zAG [(0,[2]),(1,[3]),(3,[0,5,6])],intr:=1}
def zZK:FHint:={drop:=zAG [(0,[0,2]),(1,rg 5 23),(3,[29,30]),(4,[31]),(5,[3,33]),(6,[34,35]),(7,[36]),(8,[4,38]),(9,rg 40 5),(11,rg 46 4)],take:=zAG [(5,[1]),(8,[1])]}
def zZH:FHint:={drop:=zAG [(0,[4]),(1,[0,1,5,6,7])]}
def zZw:FHint:={drop:=zAG [(0,[1,4]),(1,[0,5,6,7,8])]}
def zZL:FHint:={drop:=zAG [(0,[1]),(1,rg 3 11),(2,[14,15,16])],take:=zAG [(2,[4])]}
def zZC:FHint:={drop:=zAG [(0,[0,2,3]),(1,[10,13]),(2,[14]),(3,[5,16]),(7,[22,23,24]),(8,rg 25 12),(9,[7,38,39,40]),(10,[42])],loopDrop:=zAG [(6,[7,8]++rg 21 20++[42])],take:=zAG [(3,[2]),(9,[2]),(11,[1])]}
def zZB:FHint:={drop:=zAG [(0,[2]),(1,[4,5]),(2,[0,7,8,9])],take:=zAG [(3,[1])]}
def zZs:FHint:={drop:=zAG [(0,[2]),(1,[4,5]),(2,[0,7,8,9])],take:=zAG [(3,[1])]}
def zZJ:FHint:={drop:=zAG [(0,[2]),(1,[6,7]),(4,[13]),(5,[4,5]++rg 16 5),(6,[21])],loopDrop:=zAG [(3,[4,5]++rg 12 10)],take:=zAG [(7,[1])]}
def zY8:FHint:={drop:=zAG [(0,[0,6,7]),(1,[1,11,12,15]),(2,[2]++rg 16 6),(4,[23]),(5,[9,25])],take:=zAG [(5,[2]),(6,[1])],frz:=true}
def zZI:FHint:={drop:=zAG [(0,[1,4]),(2,rg 8 4),(4,[15]),(5,rg 16 5),(7,[24]),(8,rg 25 21),(9,[7]++rg 47 5),(10,[53]),(11,[54])],loopDrop:=zAG [(3,[6,7]++rg 14 38++[53,54]),(6,[7]++rg 23 29++[53])],take:=zAG [(12,[1])]}
def zZk:FHint:={drop:=zAG [(1,[6,7]),(2,[1]),(4,[11,12,13]),(5,[14]),(6,[15])],loopDrop:=zAG [(3,rg 10 5)]}
def zZF:FHint:={drop:=zAG [(0,[0,6]),(1,[1,8,9,10]),(2,[11]),(3,[7,13]),(4,[2,14])],take:=zAG [(3,[1])]}
def zZv:FHint:={drop:=zAG [(0,[0,6]),(1,[1,9,10]),(3,[12,13]),(4,[15,16]),(5,[17,18])],loopDrop:=zAG [(3,rg 12 7)],take:=zAG [(6,[1])]}
def zZa:FHint:={drop:=zAG [(0,[2]),(1,[6,7]),(4,[10,11,12]),(5,[14,15]),(6,rg 16 9),(9,[29,30,31]),(10,[33,34]),(11,rg 35 9),(12,rg 45 7),(13,[52,53]),(14,[54,55,56]),(15,[3])],loopDrop:=zAG [(4,[2,4,5]++rg 10 50),(9,rg 29 25)],take:=zAG [(2,[1]),(16,[1])],mode:=[2]}
def zZO:FHint:={drop:=zAG [(0,[4]),(1,rg 6 4),(3,[11]),(5,[15]),(6,[5]++rg 16 8),(8,[25])],loopDrop:=zAG [(4,[4,5]++rg 14 12)]}
def zZo:FHint:={drop:=zAG [(0,[0,4,5]),(1,[9,12]),(2,[14,15]),(3,[7,16]),(4,[18,19,20]),(6,rg 22 5),(8,[1]++rg 27 4)],take:=zAG [(3,[2]),(8,[4]),(9,[1])],frz:=true}
def zXj:FHint:={drop:=zAG [(4,[13]),(7,[16]),(8,[5]++rg 17 4),(9,[21]),(10,[22]),(12,rg 25 4),(14,[32]),(17,[40,41]),(18,rg 42 4),(19,rg 47 7),(20,[10]++rg 54 13),(21,[67]),(22,[68]),(23,[69])],loopDrop:=zAG [(3,[4,5]++rg 12 11),(6,[5]++rg 15 7),(13,[7,9,10]++rg 31 38),(16,[9,10]++rg 39 29)]}
def zX9:FHint:={drop:=zAG [(0,[1]),(1,[10]),(2,rg 11 4),(4,[18]),(5,[19,20]),(7,[7]),(9,[28,29]),(10,[8,9]++rg 30 12),(11,[42]),(12,[43]),(13,[44])],loopDrop:=zAG [(3,rg 6 4++rg 17 27),(8,[8,9]++rg 27 16)]}
def zYa:FHint:={drop:=zAG [(0,[0,6]),(2,[9,10,11]),(3,[13,14]),(5,rg 15 4),(6,[20,21]),(7,rg 22 10)],loopDrop:=zAG [(2,[6]++rg 8 25),(5,[6]++rg 15 18)]}
def zXB:FHint:={drop:=zAG [(0,[4]),(1,[0,1,5,6,7])]}
def zYp:FHint:={drop:=zAG [(0,[4]),(1,[0,1,5,6,7])]}
def zYb:FHint:={drop:=zAG [(0,[4]),(1,rg 6 4),(3,[11]),(5,[15]),(6,[5]++rg 16 8),(8,[25])],loopDrop:=zAG [(4,[4,5]++rg 14 12)]}
def zXC:FHint:={drop:=zAG [(0,[0,4]),(1,[1]++rg 5 6)]}
def zYM:FHint:={drop:=zAG [(0,[6]),(1,[0,1,2]++rg 7 8)]}
def zXq:FHint:={drop:=zAG [(0,[1,4]),(1,[0,5,6,7,8])]}
def zXM:FHint:={drop:=zAG [(0,[0,4]),(1,[1]++rg 5 5)]}
def zXG:FHint:={drop:=zAG [(0,[0]),(1,rg 3 11)]}
def zYG:FHint:={drop:=zAG [(0,[6]),(1,[0,1,2]++rg 7 8)]}
def zYB:FHint:={drop:=zAG [(0,[0,4]),(3,[9,10,11]),(4,[13,14]),(5,[15,16,17]),(7,[19,20,21]),(8,[23,24]),(9,rg 25 8),(10,[7,33,34,35])],loopDrop:=zAG [(3,rg 7 29),(7,rg 19 14)],take:=zAG [(10,[2]),(11,[1])]}
def zYA:FHint:={drop:=zAG [(0,[0,8]),(1,rg 9 7),(3,[17,18,19]),(4,[20]),(5,[22,23,24]),(6,rg 25 6)],loopDrop:=zAG [(4,[8]++rg 20 12)]}
def zXJ:FHint:={drop:=zAG [(0,[0,6]),(2,rg 9 4),(3,[14,15]),(4,rg 16 5),(5,rg 21 21)],loopDrop:=zAG [(2,[6]++rg 8 35)]}
def zYI:FHint:={drop:=zAG [(0,[0,4]),(3,[10,11,12]),(4,[14,15]),(5,rg 16 5),(7,[22,23,24]),(8,[26,27]),(10,rg 28 9),(11,[38,39]),(12,rg 40 14),(13,[7,54,55,56])],loopDrop:=zAG [(3,rg 7 50),(7,[9]++rg 22 32),(10,rg 28 26)],take:=zAG [(13,[2]),(14,[1])]}
def zYN:FHint:={drop:=zAG [(0,[0,1,4])]}
def zYn:FHint:={drop:=zAG [(0,[0,2]),(1,rg 16 20),(4,rg 37 4),(5,[42,43]),(6,rg 44 21),(9,rg 66 4),(10,[71,72]),(11,rg 73 12),(14,rg 86 4),(15,[91,92]),(17,[93,94]),(18,[96,97]),(19,rg 98 10),(20,rg 108 25),(23,rg 134 4),(24,[139,140]),(25,rg 141 8),(28,rg 150 4),(29,[155,156]),(31,[157,158]),(32,[160,161]),(33,rg 162 21),(36,rg 184 4),(37,[189,190]),(39,rg 191 7),(40,[199,200]),(41,rg 201 11),(44,rg 213 4),(45,[218,219]),(47,rg 220 7),(48,[228,229]),(49,rg 230 17)],loopDrop:=zAG [(4,[2]++rg 37 29),(9,[2]++rg 66 20),(14,[2,6,7,8]++rg 86 48),(17,[2,7,8]++rg 93 41),(23,[2]++rg 134 16),(28,[2,11]++rg 150 34),(31,[2]++rg 157 27),(36,[2,13]++rg 184 29),(39,[2]++rg 191 22),(44,[2,15]++rg 213 35),(47,[2]++rg 220 28)]}
def zX5:FHint:={drop:=zAG [(0,[1,4]),(1,[0]++rg 5 16)]}
def zYs:FHint:={drop:=zAG [(0,[3,8]),(1,[2]++rg 13 5),(5,[22,23]),(6,rg 24 14),(7,[39,40,41]),(8,[43])],loopDrop:=zAG [(4,[12]++rg 21 21++[43])],take:=zAG [(7,[2]),(9,[1])]}
def zYg:FHint:={drop:=zAG [(0,[0,2,8,9,11]),(1,[1]++rg 17 7),(2,[25,26]),(3,[13,27,28]),(4,rg 30 5),(5,[35]),(8,[40,41,42]),(9,[14,15]++rg 43 4),(10,[48]),(11,[49]),(12,rg 50 5),(13,[57,58])],loopDrop:=zAG [(7,[8,9,11,14,15]++rg 39 11)],take:=zAG [(3,[5])],frzs:=zAG [(12,[6])],frz:=true}
def zYX:FHint:={drop:=zAG [(0,[4]),(1,[8,9,10]),(2,[11]),(4,[14,15]),(5,[16,17,18]),(6,[20,21]),(7,rg 22 4),(8,[26,27,28]),(9,rg 30 4),(10,[34,35]),(11,[36,37,38]),(12,[5])],loopDrop:=zAG [(5,[7]++rg 16 20)],take:=zAG [(3,[1]),(9,[4])],mode:=[2,0]}
def zXu:FHint:={drop:=zAG [(0,[2]),(1,[3]),(3,[0,5,6])],intr:=1}
def zYO:FHint:={drop:=zAG [(0,[4]),(1,[6]),(3,[10]),(4,rg 11 5),(5,[5,17]),(6,[18])],loopDrop:=zAG [(2,[4,5]++rg 9 10)],take:=zAG [(5,[1])]}
def zXA:FHint:={drop:=zAG [(0,[2]),(1,[0,3,4,5]),(2,[0,6,7])],intr:=9}
def zXz:FHint:={drop:=zAG [(0,[1,10,11]),(1,[20]),(5,[25,26]),(6,[15]++rg 27 8),(7,rg 35 12),(8,[47]),(12,[48]),(13,[2,49,50,51]),(14,[53])],loopDrop:=zAG [(4,[15,16]++rg 24 24)],take:=zAG [(7,[4])]}
def zXE:FHint:={drop:=zAG [(0,[0,2,6]),(1,[1,7,8,9])]}
def zX2:FHint:={drop:=zAG [(0,[4]),(1,[6]),(3,[10]),(4,rg 11 5),(5,[5,17]),(6,[18])],loopDrop:=zAG [(2,[4,5]++rg 9 10)],take:=zAG [(5,[1])]}
def zYJ:FHint:={drop:=zAG [(0,[6]),(1,rg 10 4),(5,[19]),(6,[7]),(7,[8,9]++rg 26 4),(9,[31])],loopDrop:=zAG [(4,rg 6 4++rg 18 14)]}
def zXk:FHint:={drop:=zAG [(0,[0,2,3]),(1,[12,13]),(2,[14]),(3,[4,16]),(4,[17,18,19]),(7,[26,27]),(8,rg 28 6),(9,[34]),(12,[40,41,42]),(13,rg 43 6),(14,[49,50]),(15,[8]++rg 52 12),(16,[64]),(17,[65,66]),(19,[70]),(20,[71,72]),(22,[76]),(23,rg 77 12),(24,[11]++rg 90 14),(25,[104]),(26,[105])],loopDrop:=zAG [(6,[7]++rg 25 10),(11,[8,9]++rg 39 26),(18,[10,11]++rg 69 37),(21,[11]++rg 75 30)],take:=zAG [(3,[2]),(24,[9]),(27,[1])]}
def zXK:FHint:={drop:=zAG [(0,[6]),(1,[0,1,2]++rg 7 10)]}
def zYQ:FHint:={drop:=zAG [(0,[0,8]),(2,[12,13,14]),(3,[16,17]),(4,rg 18 6),(5,rg 27 4),(7,[34,35,36]),(8,[38,39]),(9,rg 40 5)],loopDrop:=zAG [(2,[8]++rg 10 36),(7,[8]++rg 34 12)]}
def zYl:FHint:={drop:=zAG [(0,[0,4]),(2,rg 6 4),(3,[11,12]),(4,rg 13 7),(5,[5,21])],loopDrop:=zAG [(2,[4]++rg 6 16)],take:=zAG [(5,[1])]}
def zXI:FHint:={drop:=zAG [(0,[0,2]),(1,rg 7 5),(3,rg 13 4),(8,[23,24]),(9,[25,26,27]),(11,[29,30,31]),(12,[32])],loopDrop:=zAG [(7,[2,5]++rg 22 11)]}
def zXs:FHint:={drop:=zAG [(0,[0,2]),(3,[12,13,14]),(4,[3]++rg 15 5),(6,[21]),(9,[27,28,29]),(10,[5]++rg 30 10),(12,[41])],loopDrop:=zAG [(2,[2,3,4]++rg 11 11),(8,[2,5,6]++rg 26 16)]}
def zXO:FHint:={drop:=zAG [(0,[1,4]),(1,[0,5,6,7,8])]}
def zYw:FHint:={drop:=zAG [(0,[3]),(1,[0,1,4,5,6,7])]}
def zYk:FHint:={drop:=zAG [(0,[2]),(1,[0]++rg 3 11)]}
def zYj:FHint:={drop:=zAG [(0,[2]),(1,[4,5,6]),(2,[7]),(3,[9,10]),(4,rg 11 9)],loopDrop:=zAG [(2,[2]++rg 7 14)]}
def zXQ:FHint:={drop:=zAG [(0,[4]),(1,[0,1,5,6,7,8])]}
def zXw:FHint:={drop:=zAG [(0,[4]),(1,rg 6 4),(3,[11]),(5,[15]),(6,[5]++rg 16 8),(8,[25])],loopDrop:=zAG [(4,[4,5]++rg 14 12)]}
def zXR:FHint:={drop:=zAG [(0,[4]),(1,[0,1,5,6,7,8])]}
def zYC:FHint:={drop:=zAG [(0,[1,4]),(1,[6]),(3,[10]),(4,rg 11 5),(5,[5,17]),(6,[18])],loopDrop:=zAG [(2,[4,5]++rg 9 10)],take:=zAG [(5,[1])]}
def zYy:FHint:={drop:=zAG [(0,[1,4]),(1,[0,5,6,7,8])]}
def zXi:FHint:={drop:=zAG [(0,[4]),(3,[11,12]),(4,[6,13,14,15]),(5,[16]),(6,[0,17])],loopDrop:=zAG [(2,[6]++rg 10 7)],take:=zAG [(6,[1])]}
def zYE:FHint:={drop:=zAG [(0,[4]),(1,rg 6 4),(3,[11]),(5,[15]),(6,[5]++rg 16 8),(8,[25])],loopDrop:=zAG [(4,[4,5]++rg 14 12)]}
def zX8:FHint:={drop:=zAG [(0,[4]),(1,rg 6 4),(3,[11]),(5,[15]),(6,[5]++rg 16 8),(8,[25])],loopDrop:=zAG [(4,[4,5]++rg 14 12)]}
def zYY:FHint:={drop:=zAG [(0,[3]),(1,[0,1,4,5,6,7])]}
def zYR:FHint:={drop:=zAG [(0,rg 5 4),(2,[12]),(3,[4]++rg 13 14),(4,[28])],loopDrop:=zAG [(1,[4]++rg 11 18)]}
def zYU:FHint:={drop:=zAG [(0,[0,4]),(1,[1]++rg 5 6)]}
def zXL:FHint:={drop:=zAG [(0,[1,4]),(1,[6,7,8]),(2,rg 9 13),(3,[0]++rg 22 7),(4,rg 29 6)],take:=zAG [(4,[3])]}
def zXH:FHint:={drop:=zAG [(0,[0,5]),(1,[1,2,3,6,7,8,9])],frz:=true}
def zYD:FHint:={drop:=zAG [(0,[4]),(1,[6]),(3,[10]),(4,rg 11 5),(5,[5,17]),(6,[18])],loopDrop:=zAG [(2,[4,5]++rg 9 10)],take:=zAG [(5,[1])]}
def zXU:FHint:={drop:=zAG [(0,[4]),(1,[0,1]++rg 5 12)]}
def zXY:FHint:={drop:=zAG [(1,[3]),(2,[5,6]),(4,[7]),(5,[9,10]),(6,[11,12]),(7,[0]++rg 13 6)],intr:=9}
def zXr:FHint:={drop:=zAG [(1,[3]),(2,[5,6]),(4,[7]),(5,[9,10]),(6,[11,12]),(7,[13]),(8,[15,16]),(9,[17,18]),(10,[0]++rg 19 6)],intr:=9}
def zXv:FHint:={drop:=zAG [(0,rg 11 7),(1,[19,20]),(2,[0,2,3,22,23]),(5,[28,29]),(6,rg 30 6),(7,rg 37 11),(8,[48])],loopDrop:=zAG [(4,[10]++rg 27 22)],mode:=[0,0,1,1,1,1,1]}
def zY0:FHint:={drop:=zAG [(0,[0,4]),(1,[1,2]++rg 5 5)]}
def zYi:FHint:={drop:=zAG [(0,[0,4]),(1,[1,2]++rg 5 9)]}
def zXl:FHint:={drop:=zAG [(0,[1,4]),(1,[0,5,6,7,8])]}
def zXS:FHint:={drop:=zAG [(0,[0,3]),(1,[1]++rg 4 10)]}
def zYe:FHint:={drop:=zAG [(0,[0,2]),(1,rg 3 5)]}
def zYZ:FHint:={drop:=zAG [(0,[4]),(1,[0,1,5,6,7,8])]}
def zYf:FHint:={drop:=zAG [(0,[0,3]),(1,[1]++rg 4 5)]}
def zYV:FHint:={drop:=zAG [(0,[4]),(1,[0,1,5,6,7,8])]}
def zX7:FHint:={drop:=zAG [(0,[3]),(1,[0,1,4,5,6,7])]}
def zYm:FHint:={drop:=zAG [(0,[4]),(1,[6]),(3,[10]),(4,rg 11 5),(5,[5,17]),(6,[18])],loopDrop:=zAG [(2,[4,5]++rg 9 10)],take:=zAG [(5,[1])]}
def zYH:FHint:={drop:=zAG [(0,[4]),(1,[6]),(3,[10]),(4,rg 11 5),(5,[5,17]),(6,[18])],loopDrop:=zAG [(2,[4,5]++rg 9 10)],take:=zAG [(5,[1])]}
def zYT:FHint:={drop:=zAG [(0,[0,3]),(1,[1,4,5,6,7])]}
def zYL:FHint:={drop:=zAG [(0,[2]),(1,[0,3,4,5])]}
def zYz:FHint:={drop:=zAG [(0,[0,3]),(1,[1,4,5,6,7])]}
def zXX:FHint:={drop:=zAG [(0,[4]),(1,[6]),(3,[10]),(4,rg 11 5),(5,[5,17]),(6,[18])],loopDrop:=zAG [(2,[4,5]++rg 9 10)],take:=zAG [(5,[1])]}
def zXV:FHint:={drop:=zAG [(0,[4]),(1,[6]),(3,[10]),(4,rg 11 5),(5,[5,17]),(6,[18])],loopDrop:=zAG [(2,[4,5]++rg 9 10)],take:=zAG [(5,[1])]}
def zJX:zBc:=fun f=>zWX [(6,nh6),(16,zZc),(17,zZl),(18,zY6),(19,zZg),(20,zZb),(21,zZz),(22,zZA),(26,zZj),(28,zZt),(29,zZE),(31,zZm),(33,zY7),(34,zZq),(35,zZD),(38,zZh),(39,zZi),(46,zZf),(47,zZp),(52,zZr),(56,zZG),(57,zZe),(58,zZn),(60,zZN),(61,zZM),(62,zZy),(65,zZx),(76,zZK),(78,zZH),(81,zZw),(83,zZL),(86,zZC),(87,zZB),(88,zZs),(89,zZJ),(90,zY8),(91,zZI),(92,zZk),(93,zZF),(95,zZv),(97,zZa),(98,zZO),(99,zZo),(100,zXj),(101,zX9),(102,zYa),(103,zXB),(104,zYp),(105,zYb),(106,zXC),(107,zYM),(108,zXq),(109,zXM),(110,zXG),(111,zYG),(112,zYB),(113,zYA),(114,zXJ),(115,zYI),(116,zYN),(117,zYn),(118,zX5),(119,zYs),(121,zYg),(122,zYX),(123,zXu),(131,zYO),(133,zXA),(134,zXz),(135,zXE),(136,zX2),(138,zYJ),(139,zXk),(140,zXK),(141,zYQ),(143,zYl),(150,zXI),(151,zXs),(152,zXO),(153,zYw),(154,zYk),(155,zYj),(156,zXQ),(158,zXw),(159,zXR),(161,zYC),(164,zYy),(165,zXi),(166,zYE),(167,zX8),(168,zYY),(169,zYR),(170,zYU),(171,zXL),(173,zXH),(174,zYD),(182,zXU),(185,zXY),(186,zXr),(187,zXv),(188,zY0),(189,zYi),(195,zXl),(196,zXS),(197,zYe),(198,zYZ),(199,zYf),(200,zYV),(201,zX7),(202,zYm),(203,zYH),(204,zYT),(210,zYL),(221,zYz),(222,zXX),(223,zXV)] f
end Go.Eng
namespace Go.Eng
open Go
abbrev Al:=PV→Value→Prop
def zB6:Al:=fun _ _=>False
def zEK (w:World) (b:Nat) (c:Array Value):Prop:=∃ e,w.heap[b]? = some (.cells c e (0,0))
def zJW (w:World) (b:Nat) (c:Array Value):Prop:=∃ e fz,w.heap[b]? = some (.cells c e fz)
def seg (c:Array Value) (o n:Nat):List Value:=(c.toList.drop o).take n
def zCa:Value→Bool
 | .agg _=>true
 | _=>false
def flat (us:List Value):List Value:=us.flatMap fun u=>u.cells.toList
mutual
def Rep (w:World) (Φ:Nat→Prop) (A:Al):PV→Value→List Nat→Prop
 | .bad,_,L=>L=[]
 | .und,v,L=>v=undef∧L=[]
 | .int k n,v,L=>v = .int k n∧L=[]
 | .bool b,v,L=>v = .bool b∧L=[]
 | .nilp,v,L=>v = .pointer none∧L=[]
 | .nilf,v,L=>v = .nilFunc∧L=[]
 | .nilm,v,L=>v = .map none∧L=[]
 | .nn,v,L=>L=[]∧∃ a n,v = .slice (some a) 0 n
 | .nils _,v,L=>v = .slice none 0 0∧L=[]
 | .agg cs,v,L=>∃ vs:Array Value,v = .agg vs∧zAX w Φ A cs vs.toList L
 | .tup cs,v,L=>∃ vs:Array Value,v = .tuple vs∧zAX w Φ A cs vs.toList L
 | .sl xs,v,L=>L=[]∧((xs=[]∧∃ a n,v = .slice a 0 n∧(a=none→n=0))∨∃ a n c us sz,v = .slice (some a) xs.length n∧a.spot=none∧xs.length≤n∧Φ a.block∧zJW w a.block c ∧
   (∀ x∈xs,x.cells.length=sz)∧((∀ u∈us,u.cells.size=sz)∧us.map zCa=xs.map PV.isAgg)∧seg c a.off (xs.length*sz)=flat us∧zAX w Φ zB6 xs us [])
 | .own sz xs,v,L=>(xs=[]∧L=[]∧v = .slice none 0 0)∨∃ a n c us L',L=a.block::L'∧v = .slice (some a) xs.length n∧a.spot=none∧xs.length≤n∧zEK w a.block c∧a.off+n*sz≤c.size ∧
   (∀ x∈xs,x.cells.length=sz)∧((∀ u∈us,u.cells.size=sz)∧us.map zCa=xs.map PV.isAgg)∧seg c a.off (xs.length*sz)=flat us∧zAX w Φ zB6 xs us L'
 | .ref q,v,L=>L=[]∧∃ a c u,v = .pointer (some a)∧a.spot=none∧Φ a.block∧zJW w a.block c∧seg c a.off q.cells.length=u.cells.toList∧(u.cells.size=q.cells.length∧zCa u=q.isAgg)∧Rep w Φ A q u []
 | .box q,v,L=>∃ a c u L',L=a.block::L'∧v = .pointer (some a)∧a.spot=none∧zEK w a.block c∧seg c a.off q.cells.length=u.cells.toList∧(u.cells.size=q.cells.length∧zCa u=q.isAgg)∧Rep w Φ A q u L'
 | .map es,v,L=>L=[]∧∃ b ents,v = .map (some b)∧Φ b∧w.heap[b]? = some (.map ents es.length)∧zDN w Φ es ents.toList 0
 | .omap es,v,L=>∃ b ents,L=[b]∧v = .map (some b)∧w.heap[b]? = some (.map ents es.length)∧zDN w Φ es ents.toList 0
 | .func f first caps,v,L=>L=[]∧∃ fs cs:Array Value,v = .func (.func f) fs cs∧zAX w Φ A first fs.toList []∧zAX w Φ A caps cs.toList []
 | .addr r pre i c sh,v,L=>L=[]∧A (.addr r pre i c sh) v
 | .bor r pre z lo n,v,L=>L=[]∧A (.bor r pre z lo n) v
 | .bsl r pre i c sz ag n,v,L=>L=[]∧A (.bsl r pre i c sz ag n) v
 | .bmap r pre,v,L=>L=[]∧A (.bmap r pre) v
 | .lock q,v,L=>Rep w Φ A q v L
 | .yld h,v,L=>L=[]∧v = .func (.yield h) #[] #[]
 | .log xs k,v,L=>L=[]∧A (.log xs k) v
def zAX (w:World) (Φ:Nat→Prop) (A:Al):List PV→List Value→List Nat→Prop
 | [],vs,L=>vs=[]∧L=[]
 | p::ps,vs,L=>∃ v vs' L1 L2,vs=v::vs'∧L=L1++L2∧Rep w Φ A p v L1∧zAX w Φ A ps vs' L2
def zDN (w:World) (Φ:Nat→Prop):List (PV×PV)→List MapEntry→Nat→Prop
 | [],es,_=>es=[]
 | (k,p)::ps,es,i=>∃ e es',es=e::es'∧e.born=i∧Rep w Φ zB6 k e.key []∧Rep w Φ zB6 p e.val []∧zDN w Φ ps es' (i+1)
end
section
variable {w w':World} {Φ Φ':Nat→Prop}
theorem zHE {f:PV→PV} (hf:∀ p,(f p).isAgg=p.isAgg) (p:PV):(p.mapW f).cells.length=p.cells.length:=by
 have one:∀ p:PV,p.isAgg=false→p.cells.length=1:=by intro p h;cases p<;>simp_all [PV.isAgg,PV.cells]
 have len:∀ ps:List PV,(zCC f ps).length=ps.length:=by
  intro ps;induction ps with
  | nil=>rfl
  | cons p ps ih=>simp [zCC,ih]
 cases p with
 | agg cs=>simp [PV.mapW,PV.cells,len]
 | addr r pre i c sh=>rw [PV.mapW,one _ (by rw [hf];rfl),one _ rfl]
 | bor r pre z lo n=>rw [PV.mapW,one _ (by rw [hf];rfl),one _ rfl]
 | bsl r pre i c z ag n=>rw [PV.mapW,one _ (by rw [hf];rfl),one _ rfl]
 | bmap r pre=>rw [PV.mapW,one _ (by rw [hf];rfl),one _ rfl]
 | log xs k=>rw [PV.mapW,one _ (by rw [hf];rfl),one _ rfl]
 | _=>rfl
theorem zFO {f:PV→PV} (hf:∀ p,(f p).isAgg=p.isAgg) (p:PV):(p.mapW f).isAgg=p.isAgg:=by
 cases p<;>first | rfl | exact hf _
mutual
theorem Rep.map {A A':Al} {f:PV→PV} (hf:∀ p,(f p).isAgg=p.isAgg) (hΦ:∀ b,Φ b→Φ' b∧w'.heap[b]? = w.heap[b]?) (hA:∀ a v,a.isWay=true→A a v→Rep w' Φ' A' (f a) v []) :
  ∀ (p:PV) (v:Value) (L:List Nat),(∀ b∈L,w'.heap[b]? = w.heap[b]?)→Rep w Φ A p v L→Rep w' Φ' A' (p.mapW f) v L
 | .bad,_,_,_,h=>by simpa [Rep,PV.mapW] using h
 | .und,_,_,_,h=>by simpa [Rep,PV.mapW] using h
 | .int ..,_,_,_,h=>by simpa [Rep,PV.mapW] using h
 | .bool _,_,_,_,h=>by simpa [Rep,PV.mapW] using h
 | .nilp,_,_,_,h=>by simpa [Rep,PV.mapW] using h
 | .nilf,_,_,_,h=>by simpa [Rep,PV.mapW] using h
 | .nilm,_,_,_,h=>by simpa [Rep,PV.mapW] using h
 | .nn,_,_,_,h=>by simpa [Rep,PV.mapW] using h
 | .nils _,_,_,_,h=>by simpa [Rep,PV.mapW] using h
 | .agg cs,v,L,hw,h=>by
  obtain ⟨vs,rfl,h⟩:=h
  exact ⟨vs,rfl,zAX.map hf hΦ hA cs _ L hw h⟩
 | .tup cs,v,L,hw,h=>by
  obtain ⟨vs,rfl,h⟩:=h
  exact ⟨vs,rfl,zAX.map hf hΦ hA cs _ L hw h⟩
 | .sl xs,v,L,hw,h=>by
  obtain ⟨rfl,h | ⟨a,n,c,us,sz,h1,h2,h3,h4,⟨e,fz,h5⟩,h6,h7,h8,h9⟩⟩:=h
  ·exact ⟨rfl,.inl h⟩
  ·have:=zAX.same (A:=zB6) hΦ xs us [] (by simp) h9
   exact ⟨rfl,.inr ⟨a,n,c,us,sz,h1,h2,h3,(hΦ _ h4).1,⟨e,fz,(hΦ _ h4).2.trans h5⟩,h6,h7,h8,this⟩⟩
 | .own sz xs,v,L,hw,h=>by
  obtain h | ⟨a,n,c,us,L',rfl,h1,h2,h3,⟨e,h5⟩,h6,h7,h8,h9,jQ⟩:=h
  ·exact .inl h
  ·have:=zAX.same (A:=zB6) hΦ xs us L' (fun b hb=>hw b (by simp [hb])) jQ
   exact .inr ⟨a,n,c,us,L',rfl,h1,h2,h3,⟨e,(hw _ (by simp)).trans h5⟩,h6,h7,h8,h9,this⟩
 | .ref q,v,L,hw,h=>by
  obtain ⟨rfl,a,c,u,h1,h2,h3,⟨e,fz,h4⟩,h5,h6,h7⟩:=h
  have hc:(q.mapW f).cells.length=q.cells.length:=zHE hf q
  exact ⟨rfl,a,c,u,h1,h2,(hΦ _ h3).1,⟨e,fz,(hΦ _ h3).2.trans h4⟩,by rw [hc];exact h5,by rw [hc,zFO hf];exact h6,Rep.map hf hΦ hA q u [] (by simp) h7⟩
 | .box q,v,L,hw,h=>by
  obtain ⟨a,c,u,L',rfl,h1,h2,⟨e,h4⟩,h5,h6,h7⟩:=h
  have hc:(q.mapW f).cells.length=q.cells.length:=zHE hf q
  exact ⟨a,c,u,L',rfl,h1,h2,⟨e,(hw _ (by simp)).trans h4⟩,by rw [hc];exact h5,by rw [hc,zFO hf];exact h6,Rep.map hf hΦ hA q u L' (fun b hb=>hw b (by simp [hb])) h7⟩
 | .map es,v,L,hw,h=>by
  obtain ⟨rfl,b,ents,h1,h2,h3,h4⟩:=h
  exact ⟨rfl,b,ents,h1,(hΦ _ h2).1,(hΦ _ h2).2.trans h3,zDN.same hΦ es _ _ h4⟩
 | .omap es,v,L,hw,h=>by
  obtain ⟨b,ents,rfl,h1,h3,h4⟩:=h
  exact ⟨b,ents,rfl,h1,(hw _ (by simp)).trans h3,zDN.same hΦ es _ _ h4⟩
 | .func g a b,v,L,hw,h=>by
  obtain ⟨rfl,fs,cs,h1,h2,h3⟩:=h
  exact ⟨rfl,fs,cs,h1,zAX.map hf hΦ hA a _ [] (by simp) h2,zAX.map hf hΦ hA b _ [] (by simp) h3⟩
 | .addr ..,v,L,hw,h=>by obtain ⟨rfl,h⟩:=h;exact hA _ _ rfl h
 | .bor ..,v,L,hw,h=>by obtain ⟨rfl,h⟩:=h;exact hA _ _ rfl h
 | .bsl ..,v,L,hw,h=>by obtain ⟨rfl,h⟩:=h;exact hA _ _ rfl h
 | .bmap ..,v,L,hw,h=>by obtain ⟨rfl,h⟩:=h;exact hA _ _ rfl h
 | .lock q,v,L,hw,h=>Rep.map hf hΦ hA q v L hw h
 | .yld _,v,L,hw,h=>h
 | .log ..,v,L,hw,h=>by obtain ⟨rfl,h⟩:=h;exact hA _ _ rfl h
theorem zAX.map {A A':Al} {f:PV→PV} (hf:∀ p,(f p).isAgg=p.isAgg) (hΦ:∀ b,Φ b→Φ' b∧w'.heap[b]? = w.heap[b]?) (hA:∀ a v,a.isWay=true→A a v→Rep w' Φ' A' (f a) v []) :
  ∀ (ps:List PV) (vs:List Value) (L:List Nat),(∀ b∈L,w'.heap[b]? = w.heap[b]?)→zAX w Φ A ps vs L→zAX w' Φ' A' (zCC f ps) vs L
 | [],_,_,_,h=>h
 | p::ps,vs,L,hw,h=>by
  obtain ⟨v,vs',L1,L2,rfl,rfl,h1,h2⟩:=h
  exact ⟨v,vs',L1,L2,rfl,rfl,Rep.map hf hΦ hA p v L1 (fun b hb=>hw b (by simp [hb])) h1,zAX.map hf hΦ hA ps vs' L2 (fun b hb=>hw b (by simp [hb])) h2⟩
theorem Rep.same {A:Al} (hΦ:∀ b,Φ b→Φ' b∧w'.heap[b]? = w.heap[b]?) :
  ∀ (p:PV) (v:Value) (L:List Nat),(∀ b∈L,w'.heap[b]? = w.heap[b]?)→Rep w Φ zB6 p v L→Rep w' Φ' A p v L
 | .bad,_,_,_,h=>h
 | .und,_,_,_,h=>h
 | .int ..,_,_,_,h=>h
 | .bool _,_,_,_,h=>h
 | .nilp,_,_,_,h=>h
 | .nilf,_,_,_,h=>h
 | .nilm,_,_,_,h=>h
 | .nn,_,_,_,h=>h
 | .nils _,_,_,_,h=>h
 | .agg cs,v,L,hw,h=>by
  obtain ⟨vs,rfl,h⟩:=h
  exact ⟨vs,rfl,zAX.same hΦ cs _ L hw h⟩
 | .tup cs,v,L,hw,h=>by
  obtain ⟨vs,rfl,h⟩:=h
  exact ⟨vs,rfl,zAX.same hΦ cs _ L hw h⟩
 | .sl xs,v,L,hw,h=>by
  obtain ⟨rfl,h | ⟨a,n,c,us,sz,h1,h2,h3,h4,⟨e,fz,h5⟩,h6,h7,h8,h9⟩⟩:=h
  ·exact ⟨rfl,.inl h⟩
  ·have:=zAX.same (A:=zB6) hΦ xs us [] (by simp) h9
   exact ⟨rfl,.inr ⟨a,n,c,us,sz,h1,h2,h3,(hΦ _ h4).1,⟨e,fz,(hΦ _ h4).2.trans h5⟩,h6,h7,h8,this⟩⟩
 | .own sz xs,v,L,hw,h=>by
  obtain h | ⟨a,n,c,us,L',rfl,h1,h2,h3,⟨e,h5⟩,h6,h7,h8,h9,jQ⟩:=h
  ·exact .inl h
  ·have:=zAX.same (A:=zB6) hΦ xs us L' (fun b hb=>hw b (by simp [hb])) jQ
   exact .inr ⟨a,n,c,us,L',rfl,h1,h2,h3,⟨e,(hw _ (by simp)).trans h5⟩,h6,h7,h8,h9,this⟩
 | .ref q,v,L,hw,h=>by
  obtain ⟨rfl,a,c,u,h1,h2,h3,⟨e,fz,h4⟩,h5,h6,h7⟩:=h
  exact ⟨rfl,a,c,u,h1,h2,(hΦ _ h3).1,⟨e,fz,(hΦ _ h3).2.trans h4⟩,h5,h6,Rep.same hΦ q u [] (by simp) h7⟩
 | .box q,v,L,hw,h=>by
  obtain ⟨a,c,u,L',rfl,h1,h2,⟨e,h4⟩,h5,h6,h7⟩:=h
  exact ⟨a,c,u,L',rfl,h1,h2,⟨e,(hw _ (by simp)).trans h4⟩,h5,h6,Rep.same hΦ q u L' (fun b hb=>hw b (by simp [hb])) h7⟩
 | .map es,v,L,hw,h=>by
  obtain ⟨rfl,b,ents,h1,h2,h3,h4⟩:=h
  exact ⟨rfl,b,ents,h1,(hΦ _ h2).1,(hΦ _ h2).2.trans h3,zDN.same hΦ es _ _ h4⟩
 | .omap es,v,L,hw,h=>by
  obtain ⟨b,ents,rfl,h1,h3,h4⟩:=h
  exact ⟨b,ents,rfl,h1,(hw _ (by simp)).trans h3,zDN.same hΦ es _ _ h4⟩
 | .func g a b,v,L,hw,h=>by
  obtain ⟨rfl,fs,cs,h1,h2,h3⟩:=h
  exact ⟨rfl,fs,cs,h1,zAX.same hΦ a _ [] (by simp) h2,zAX.same hΦ b _ [] (by simp) h3⟩
 | .addr ..,v,L,hw,h=>h.2.elim
 | .bor ..,v,L,hw,h=>h.2.elim
 | .bsl ..,v,L,hw,h=>h.2.elim
 | .bmap ..,v,L,hw,h=>h.2.elim
 | .lock q,v,L,hw,h=>Rep.same hΦ q v L hw h
 | .yld _,v,L,hw,h=>h
 | .log ..,v,L,hw,h=>h.2.elim
theorem zAX.same {A:Al} (hΦ:∀ b,Φ b→Φ' b∧w'.heap[b]? = w.heap[b]?) :
  ∀ (ps:List PV) (vs:List Value) (L:List Nat),(∀ b∈L,w'.heap[b]? = w.heap[b]?)→zAX w Φ zB6 ps vs L→zAX w' Φ' A ps vs L
 | [],_,_,_,h=>h
 | p::ps,vs,L,hw,h=>by
  obtain ⟨v,vs',L1,L2,rfl,rfl,h1,h2⟩:=h
  exact ⟨v,vs',L1,L2,rfl,rfl,Rep.same hΦ p v L1 (fun b hb=>hw b (by simp [hb])) h1,zAX.same hΦ ps vs' L2 (fun b hb=>hw b (by simp [hb])) h2⟩
theorem zDN.same (hΦ:∀ b,Φ b→Φ' b∧w'.heap[b]? = w.heap[b]?):∀ (ps:List (PV×PV)) (es:List MapEntry) (i:Nat),zDN w Φ ps es i→zDN w' Φ' ps es i
 | [],_,_,h=>h
 | (k,p)::ps,es,i,h=>by
  obtain ⟨e,es',rfl,h0,h1,h2,h3⟩:=h
  exact ⟨e,es',rfl,h0,Rep.same hΦ k _ [] (by simp) h1,Rep.same hΦ p _ [] (by simp) h2,zDN.same hΦ ps es' (i+1) h3⟩
end
end
mutual
theorem zBb:∀ p:PV,p.mapW (fun x=>x)=p
 | .agg cs=>by rw [PV.mapW,zFS]
 | .tup cs=>by rw [PV.mapW,zFS]
 | .func g a b=>by rw [PV.mapW,zFS,zFS]
 | .ref q=>by rw [PV.mapW,zBb]
 | .box q=>by rw [PV.mapW,zBb]
 | .lock q=>by rw [PV.mapW,zBb]
 | .addr .. => rfl
 | .bor .. => rfl
 | .bsl .. => rfl
 | .bmap .. => rfl
 | .yld .. => rfl
 | .log .. => rfl
 | .bad=>rfl
 | .und=>rfl
 | .int .. => rfl
 | .bool .. => rfl
 | .nilp=>rfl
 | .nilf=>rfl
 | .nilm=>rfl
 | .nn=>rfl
 | .nils _=>rfl
 | .sl _=>rfl
 | .own .. => rfl
 | .map _=>rfl
 | .omap _=>rfl
theorem zFS:∀ ps:List PV,zCC (fun x=>x) ps=ps
 | []=>rfl
 | p::ps=>by rw [zCC,zBb,zFS]
end
def zDf (w w':World) (Φ Φ':Nat→Prop):Prop:=∀ b,Φ b→Φ' b∧w'.heap[b]? = w.heap[b]?
theorem zCN {w:World} {Φ:Nat→Prop} {A:Al} {a:PV} {v:Value} (hw:a.isWay=true) (h:A a v):Rep w Φ A a v []:=by
 cases a<;>first | exact ⟨rfl,h⟩ | exact absurd hw (by simp [PV.isWay])
section
variable {w w':World} {Φ Φ':Nat→Prop} {A A':Al}
theorem Rep.mono (hΦ:zDf w w' Φ Φ') (hA:∀ a v,a.isWay=true→A a v→A' a v) {p:PV} {v:Value} {L:List Nat} (hw:∀ b∈L,w'.heap[b]? = w.heap[b]?) (h:Rep w Φ A p v L):Rep w' Φ' A' p v L:=by
 have:=Rep.map (f:=fun x=>x) (fun _=>rfl) hΦ (fun a v hw h=>zCN hw (hA a v hw h)) p v L hw h
 rwa [zBb] at this
theorem zAX.mono (hΦ:zDf w w' Φ Φ') (hA:∀ a v,a.isWay=true→A a v→A' a v) {p:List PV} {v:List Value} {L:List Nat} (hw:∀ b∈L,w'.heap[b]? = w.heap[b]?) (h:zAX w Φ A p v L):zAX w' Φ' A' p v L:=by
 have:=zAX.map (f:=fun x=>x) (fun _=>rfl) hΦ (fun a v hw h=>zCN hw (hA a v hw h)) p v L hw h
 rwa [zFS] at this
theorem zDf.refl:zDf w w Φ Φ:=fun _ h=>⟨h,rfl⟩
theorem zAX.split:∀ {ps:List PV} {vs:List Value} {L:List Nat},zAX w Φ A ps vs L→∀ {i:Nat} {p:PV},ps[i]? = some p →
  ∃ v La Li Lb,vs[i]? = some v∧L=La++Li++Lb∧Rep w Φ A p v Li ∧
   (∀ w' Φ' (A':Al) p' Li',(∀ a v,a.isWay=true→A a v→A' a v)→zDf w w' Φ Φ'→(∀ b∈La++Lb,w'.heap[b]? = w.heap[b]?)→Rep w' Φ' A' p' v Li'→zAX w' Φ' A' (ps.set i p') vs (La++Li'++Lb)) ∧
   ∀ j p2,j≠i→ps[j]? = some p2→∃ v2 L2,vs[j]? = some v2∧Rep w Φ A p2 v2 L2∧∀ b∈L2,b∈La++Lb
 | [],_,_,_,_,_,hp=>by simp at hp
 | q :: ps,vs,L,h,0,p,hp=>by
  obtain ⟨v,vs',L1,L2,rfl,rfl,h1,h2⟩:=h
  simp at hp;subst hp
  refine ⟨v,[],L1,L2,rfl,by simp,h1,?_,?_⟩
  ·intro w' Φ' A' p' Li' hA hs hb hr
   exact ⟨v,vs',Li',L2,rfl,by simp,hr,h2.mono hs hA (by simpa using hb)⟩
  ·intro j p2 hj w6
   cases j with
   | zero=>exact absurd rfl hj
   | succ j =>
    obtain ⟨v2,La,Li,Lb,ke,rfl,qj,_⟩:=h2.split (i:=j) (p:=p2) (by simpa using w6)
    exact ⟨v2,Li,by simpa using ke,qj,fun b hb=>by simp [hb]⟩
 | q :: ps,vs,L,h,i+1,p,hp=>by
  obtain ⟨v,vs',L1,L2,rfl,rfl,h1,h2⟩:=h
  obtain ⟨u,La,Li,Lb,hu,rfl,hr,hk,ho⟩:=h2.split (i:=i) (by simpa using hp)
  refine ⟨u,L1++La,Li,Lb,by simpa using hu,by simp,hr,?_,?_⟩
  rotate_left
  ·intro j p2 hj w6
   cases j with
   | zero=>simp at w6;subst w6;exact ⟨v,L1,rfl,h1,fun b hb=>by simp [hb]⟩
   | succ j =>
    obtain ⟨v2,L2,j1,jb,wM⟩:=ho j p2 (by omega) (by simpa using w6)
    exact ⟨v2,L2,by simpa using j1,jb,fun b hb=>by have:=wM b hb;simp at this ⊢;rcases this with h | h<;>simp [h]⟩
  intro w' Φ' A' p' Li' hA hs hb j2
  exact ⟨v,vs',L1,La++Li'++Lb,rfl,by simp,h1.mono hs hA (fun b h=>hb b (by simp [h])),hk w' Φ' A' p' Li' hA hs (fun b h=>hb b (by rcases List.mem_append.1 h with h | h<;>simp [h])) j2⟩
theorem zAX.length:∀ {ps:List PV} {vs:List Value} {L:List Nat},zAX w Φ A ps vs L→vs.length=ps.length
 | [],_,_,h=>by simp [h.1]
 | _::_,_,_,h=>by
  obtain ⟨v,vs',L1,L2,rfl,rfl,h1,h2⟩:=h
  simp [h2.length]
end
def zAr (a:Addr) (k:Nat):Addr:=⟨a.block,a.off+k,none⟩
def kid (w:World):Value→PV→Nat→Nat→Option Value
 | .slice (some a) _ _,.own sz _,i,c=>w.cell? (zAr a (i*sz+c))
 | .pointer (some a),.box _,_,c=>w.cell? (zAr a c)
 | .agg vs,.agg _,_,c=>vs[c]?
 | _,_,_,_=>none
def zAN (w:World):Value→PV→zAO→Option (Value×PV)
 | v,p,[]=>some (v,p)
 | v, p, (i,c)::rest =>
  match zAZ p with
  | some xs=>match xs[i]? with
   | some x=>match x.cells[c]? with
    | some q=>match kid w v p i c with
     | some u=>zAN w u q rest
     | none=>none
    | none=>none
   | none=>none
  | none=>none
def zA4:Value→PV→Nat→Nat→Option Addr
 | .slice (some a) _ _,.own sz _,i,c=>some (zAr a (i*sz+c))
 | .pointer (some a),.box _,0,c=>some (zAr a c)
 | _,_,_,_=>none
def zBH (v nv:Value) (sz lo n:Nat):Prop :=
 match nv with
 | .slice none _ _=>v = .slice none 0 0∧n=0
 | .slice (some a) _ cap=>v = .slice (some (zAr a (lo*sz))) n (cap-lo)∧lo+n≤cap
 | _=>False
def zA1 (w:World) (rv:Nat→Value) (E:Nat→PV):Al
 | .addr r pre i c _,v=>r<zAb∧∃ a,v = .pointer (some a)∧a.spot=none∧∀ nv np,zAN w (rv r) (E r).unlock pre=some (nv,np)→∀ a',zA4 nv np i c=some a'→a=a'
 | .bor r pre z lo n,v=>r<zAb∧(∃ a cap,v = .slice a n cap∧n≤cap∧(a=none→cap=0)∧∀ b,a=some b→b.spot=none) ∧
   ∀ nv np,zAN w (rv r) (E r).unlock pre=some (nv,np)→np.heavy0=true→∃ sz xs,np = .own sz xs∧z=sz∧zBH v nv sz lo n
 | .bsl r pre i c _ _ n,v=>r<zAb∧∃ a cap,v = .slice (some a) n cap∧n≤cap∧a.spot=none ∧
   ∀ nv np,zAN w (rv r) (E r).unlock pre=some (nv,np)→∀ a',zA4 nv np i c=some a'→a=a'
 | .bmap r pre,v=>r<zAb∧(∃ b,v = .map (some b))∧∀ nv np,zAN w (rv r) (E r).unlock pre=some (nv,np)→∀ es,np = .omap es→v=nv
 | _,_=>False
def child (p:PV) (i c:Nat):Option PV:=(zAZ p).bind fun xs=>(xs[i]?).bind fun x=>x.cells[c]?
theorem zBY (p:PV) (i c:Nat) (rest:zAO):zAz p ((i,c)::rest)=(child p i c).bind (zAz · rest):=by
 simp only [zAz,child];split
 ·rename_i xs h;rw [h];simp only [Option.bind_some];split
  ·rename_i x h;rw [h];simp only [Option.bind_some];split
   ·rename_i q h;rw [h];rfl
   ·rename_i h;rw [h];rfl
  ·rename_i h;rw [h];rfl
 ·rename_i h;rw [h];rfl
theorem zA2 (w:World) (v:Value) (p:PV) (i c:Nat) (rest:zAO):zAN w v p ((i,c)::rest)=(child p i c).bind fun q=>(kid w v p i c).bind fun u=>zAN w u q rest:=by
 simp only [zAN,child];split
 ·rename_i xs h;rw [h];simp only [Option.bind_some];split
  ·rename_i x h;rw [h];simp only [Option.bind_some];split
   ·rename_i q h;rw [h];simp only [Option.bind_some];split
    ·rename_i h;rw [h];rfl
    ·rename_i h;rw [h];rfl
   ·rename_i h;rw [h];rfl
  ·rename_i h;rw [h];rfl
 ·rename_i h;rw [h];rfl
def zBQ (p:PV) (i c:Nat) (q':PV):Option PV:=(zAZ p).bind fun xs=>(xs[i]?).bind fun x=>zAB p (xs.set i (zAy x c [q']))
theorem zBl (f:PV→Option PV) (p:PV) (i c:Nat) (rest:zAO):zAv f p ((i,c)::rest)=(child p i c).bind fun q=>(zAv f q rest).bind fun q'=>zBQ p i c q':=by
 simp only [zAv,child,zBQ];split
 ·rename_i xs h;rw [h];simp only [Option.bind_some];split
  ·rename_i x h;rw [h];simp only [Option.bind_some];split
   ·rename_i q h;rw [h];simp only [Option.bind_some];split
    ·rename_i h;rw [h];rfl
    ·rename_i h;rw [h];rfl
   ·rename_i h;rw [h];rfl
  ·rename_i h;rw [h];rfl
 ·rename_i h;rw [h];rfl
section
variable {w w':World} {Φ Φ':Nat→Prop} {A:Al}
theorem Rep.cell {p:PV} {v:Value} {L:List Nat} (h:Rep w Φ A p v L) {c:Nat} {q:PV} (hq:p.cells[c]? = some q) (hn:zCa v=p.isAgg) :
  ∃ u La Li Lb,v.cells.toList[c]? = some u∧L=La++Li++Lb∧Rep w Φ A q u Li ∧
   (∀ w' Φ' (A':Al) q' Li',(∀ a v,a.isWay=true→A a v→A' a v)→zDf w w' Φ Φ'→(∀ b∈La++Lb,w'.heap[b]? = w.heap[b]?)→q'.isAgg=q.isAgg→Rep w' Φ' A' q' u Li'→Rep w' Φ' A' (zAy p c [q']) v (La++Li'++Lb)∧(zAy p c [q']).cells.length=p.cells.length∧(zAy p c [q']).isAgg=p.isAgg) ∧
   ∀ c2 q2,c2≠c→p.cells[c2]? = some q2→∃ u2 L2,v.cells.toList[c2]? = some u2∧Rep w Φ A q2 u2 L2∧∀ b∈L2,b∈La++Lb:=by
 cases hp:p.isAgg with
 | true =>
  cases p<;>simp [PV.isAgg] at hp
  rename_i cs
  obtain ⟨vs,rfl,h⟩:=h
  obtain ⟨u,La,Li,Lb,hu,rfl,hr,hk,ho⟩:=h.split hq
  have hc:c<cs.length:=(List.getElem?_eq_some_iff.1 hq).1
  refine ⟨u,La,Li,Lb,hu,rfl,hr,fun w' Φ' A' q' Li' hA hs hb _ j2=>?_,fun c2 q2 hI h2=>ho c2 q2 hI h2⟩
  have he:cs.take c++[q']++cs.drop (c+1)=cs.set c q':=by
   rw [List.set_eq_take_append_cons_drop,if_pos hc];simp
  refine ⟨⟨vs,rfl,?_⟩,?_,rfl⟩
  ·show zAX w' Φ' A' (cs.take c++[q']++cs.drop (c+1)) _ _
   rw [he];exact hk w' Φ' A' q' Li' hA hs hb j2
  ·show (cs.take c++[q']++cs.drop (c+1)).length=cs.length
   rw [he];simp
 | false =>
  have j3:p.cells=[p]:=by cases p<;>first | rfl | simp [PV.isAgg] at hp
  have hv:v.cells=#[v]:=by rw [hp] at hn;cases v<;>first | rfl | simp [zCa] at hn
  rw [j3] at hq
  have hc:c=0:=by
   have:=(List.getElem?_eq_some_iff.1 hq).1;simp at this;exact this
  subst hc;simp at hq;subst hq
  refine ⟨v,[],L,[],by simp [hv],by simp,h,fun w' Φ' A' q' Li' hA hs hb jc j2=>?_,fun c2 q2 hI h2=>?_⟩
  rotate_left
  ·rw [j3] at h2
   have:=(List.getElem?_eq_some_iff.1 h2).1;simp at this;omega
  replace jc:q'.isAgg=false:=jc.trans hp
  have he:zAy p 0 [q']=q':=by cases p<;>first | rfl | simp [PV.isAgg] at hp
  rw [he]
  refine ⟨by simpa using j2,?_,jc⟩
  rw [j3];cases q'<;>first | rfl | simp [PV.isAgg] at jc
end
theorem zEe {α β:Type} {f:α→β}:∀ {xs:List α} {i:Nat} {x y:α},xs[i]? = some x→f y=f x→(xs.set i y).map f=xs.map f
 | [],_,_,_,h,_=>by simp at h
 | z::xs,0,x,y,h,e=>by simp at h;subst h;simp [e]
 | z::xs,i+1,x,y,h,e=>by
  have:=zEe (xs:=xs) (i:=i) (by simpa using h) e
  simpa using this
theorem zDW {sz:Nat}:∀ {us:List Value},(∀ u∈us,u.cells.size=sz)→∀ {i c:Nat} {x u:Value},us[i]? = some x→x.cells.toList[c]? = some u→(flat us)[i*sz+c]? = some u
 | [],_,_,_,_,_,h,_=>by simp at h
 | y::us,hs,0,c,x,u,h,hc=>by
  simp at h;subst h
  have:c<y.cells.toList.length:=(List.getElem?_eq_some_iff.1 hc).1
  simp only [flat,List.flatMap_cons,Nat.zero_mul,Nat.zero_add]
  rw [List.getElem?_append_left this];exact hc
 | y::us,hs,i+1,c,x,u,h,hc=>by
  have ih:=zDW (us:=us) (fun u hu=>hs u (by simp [hu])) (i:=i) (by simpa using h) hc
  have hy:y.cells.toList.length=sz:=by simpa using hs y (by simp)
  simp only [flat,List.flatMap_cons]
  rw [List.getElem?_append_right (by rw [hy,Nat.succ_mul];omega),hy]
  rw [show (i+1)*sz+c-sz=i*sz+c by rw [Nat.succ_mul];omega]
  exact ih
theorem zDd {c:Array Value} {o n k:Nat} {u:Value} (h:(seg c o n)[k]? = some u):c[o+k]? = some u:=by
 simp only [seg,List.getElem?_take,List.getElem?_drop] at h
 split at h
 ·simpa using h
 ·cases h
theorem zCH {w:World} {b:Nat} {c:Array Value} (h:zJW w b c) (k:Nat):w.cell? ⟨b,k,none⟩=c[k]?:=by
 obtain ⟨e,fz,h⟩:=h
 simp [World.cell?,h]
theorem zEK.any {w:World} {b:Nat} {c:Array Value} (h:zEK w b c):zJW w b c:=by
 obtain ⟨e,h⟩:=h;exact ⟨e,_,h⟩
def zGk (A:Al):PV→Al
 | .own .. => zB6
 | _=>A
theorem zKA {A A':Al} {p:PV} (hA:∀ a v,a.isWay=true→A a v→A' a v):∀ a v,a.isWay=true→zGk A p a v→zGk A' p a v:=by
 intro a v hw h
 cases p<;>first | exact hA a v hw h | exact h.elim
section
variable {w w':World} {Φ Φ':Nat→Prop} {A:Al}
theorem Rep.child {p:PV} {v:Value} {L:List Nat} (h:Rep w Φ A p v L) {i c:Nat} {q:PV} (hq:child p i c=some q) :
  ∃ u La Li Lb,kid w v p i c=some u∧L=La++Li++Lb∧Rep w Φ (zGk A p) q u Li ∧
   (∀ w' Φ' (A':Al) q' Li' p',(∀ a v,a.isWay=true→A a v→A' a v)→zDf w w' Φ Φ'→(∀ b∈La++Lb,w'.heap[b]? = w.heap[b]?)→q'.isAgg=q.isAgg→Rep w' Φ' (zGk A' p) q' u Li'→zBQ p i c q'=some p'→Rep w' Φ' A' p' v (La++Li'++Lb)) ∧
   (∀ w',(∀ b∈La++Lb,w'.heap[b]? = w.heap[b]?)→∀ q' p',zBQ p i c q'=some p'→∀ i2 c2,kid w' v p' i2 c2=kid w v p i2 c2) ∧
   ∀ i2 c2 q2,(i2,c2)≠(i,c)→Eng.child p i2 c2=some q2→∃ u2 L2,kid w v p i2 c2=some u2∧Rep w Φ (zGk A p) q2 u2 L2∧∀ b∈L2,b∈La++Lb:=by
 cases p<;>simp only [Eng.child,zAZ,Option.bind_none,Option.bind_some] at hq<;>try cases hq
 case agg cs =>
  obtain ⟨vs,rfl,h⟩:=h
  have hi:i=0:=by
   cases i with
   | zero=>rfl
   | succ i=>simp at hq
  subst hi;simp [PV.cells] at hq
  obtain ⟨u,La,Li,Lb,hu,rfl,hr,hk,ho⟩:=h.split (i:=c) (p:=q) (by simpa using hq)
  refine ⟨u,La,Li,Lb,by simpa [kid] using hu,rfl,hr,fun w' Φ' A' q' Li' p' hA hs hb _ j2 hp=>?_,?_,?_⟩
  rotate_left
  ·intro w' hb q' p' hp i2 c2
   simp only [zBQ,zAZ,zAB,zAy,Option.bind_some,List.getElem?_cons_zero,List.set_cons_zero] at hp
   cases hp;rfl
  ·intro i2 c2 q2 hI h2
   have vR:i2=0:=by
    cases i2 with
    | zero=>rfl
    | succ i=>simp [Eng.child,zAZ] at h2
   subst vR
   simp [Eng.child,zAZ,PV.cells] at h2
   obtain ⟨u2,L2,h3,h4,h5⟩:=ho c2 q2 (fun e=>hI (by rw [e])) h2
   exact ⟨u2,L2,by simpa [kid] using h3,h4,h5⟩
  have hc:c<cs.length:=(List.getElem?_eq_some_iff.1 hq).1
  have he:cs.take c++[q']++cs.drop (c+1)=cs.set c q':=by
   rw [List.set_eq_take_append_cons_drop,if_pos hc];simp
  simp only [zBQ,zAZ,zAB,zAy,Option.bind_some,List.getElem?_cons_zero,List.set_cons_zero,List.length_singleton,he] at hp
  cases hp
  exact ⟨vs,rfl,hk w' Φ' A' q' Li' hA hs hb j2⟩
 case box q0 =>
  obtain ⟨a,r,u0,L',rfl,h1,h2,h4,h5,⟨h6,uc⟩,h7⟩:=h
  have hi:i=0:=by
   cases i with
   | zero=>rfl
   | succ i=>simp at hq
  subst hi;simp at hq
  obtain ⟨u,La,Li,Lb,hu,rfl,hr,hk,ho⟩:=h7.cell hq uc
  have jr:∀ c2 u2,u0.cells.toList[c2]? = some u2→kid w v (.box q0) 0 c2=some u2:=by
   intro c2 u2 h
   subst h1
   have:=zDd (c:=r) (o:=a.off) (n:=q0.cells.length) (k:=c2) (u:=u2) (by rw [h5];exact h)
   simp only [kid,zAr]
   rw [zCH h4.any];exact this
  refine ⟨u,a.block::La,Li,Lb,?_,by simp,hr,fun w' Φ' A' q' Li' p' hA hs hb jc j2 hp=>?_,?_,?_⟩
  rotate_left 2
  ·intro w' hb q' p' hp i2 c2
   simp only [zBQ,zAZ,zAB,Option.bind_some,List.getElem?_cons_zero,List.set_cons_zero] at hp
   cases hp;subst h1
   simp only [kid,World.cell?,zAr]
   rw [hb a.block (by simp)]
  ·intro i2 c2 q2 hI h2
   have vR:i2=0:=by
    cases i2 with
    | zero=>rfl
    | succ i=>simp [Eng.child,zAZ] at h2
   subst vR
   simp [Eng.child,zAZ] at h2
   obtain ⟨u2,L2,h3,qk,h5'⟩:=ho c2 q2 (fun e=>hI (by rw [e])) h2
   exact ⟨u2,L2,jr c2 u2 h3,qk,fun b hb=>by have:=h5' b hb;simp at this ⊢;rcases this with h | h<;>simp [h]⟩
  ·subst h1
   have:c<q0.cells.length:=(List.getElem?_eq_some_iff.1 hq).1
   have:=zDd (c:=r) (o:=a.off) (n:=q0.cells.length) (k:=c) (u:=u) (by rw [h5];exact hu)
   simp only [kid,zAr]
   rw [zCH h4.any];exact this
  ·obtain ⟨hx,hl,hg⟩:=hk w' Φ' A' q' Li' hA hs (fun b h=>hb b (by simp at h ⊢;rcases h with h | h<;>simp [h])) jc j2
   simp only [zBQ,zAZ,zAB,Option.bind_some,List.getElem?_cons_zero,List.set_cons_zero] at hp
   cases hp
   obtain ⟨e,h4⟩:=h4
   refine ⟨a,r,u0,La++Li'++Lb,by simp,h1,h2,⟨e,?_⟩,by rw [hl];exact h5,⟨by rw [hl];exact h6,by rw [hg];exact uc⟩,hx⟩
   rw [hb a.block (by simp)];exact h4
 case own sz xs =>
  obtain ⟨h1,h2,h3⟩ | ⟨a,n,r,us,L',rfl,h1,h2,h3,h4,h5,h6,⟨h7,uG⟩,h8,h9⟩:=h
  ·subst h1;simp at hq
  ·cases hx:xs[i]? with
   | none=>rw [hx] at hq;simp at hq
   | some x =>
    rw [hx] at hq;simp at hq
    obtain ⟨ux,La,Li,Lb,hu,rfl,hr,hk,ho⟩:=h9.split hx
    have hg:zCa ux=x.isAgg:=by
     have h1:(us.map zCa)[i]? = some (zCa ux):=by simp [hu]
     have h2:(xs.map PV.isAgg)[i]? = some x.isAgg:=by simp [hx]
     rw [uG] at h1;rw [h1] at h2;simpa using h2
    obtain ⟨u,La',Li',Lb',hu',rfl,j2,wN,ho'⟩:=hr.cell hq hg
    have jr:∀ i2 c2 x2 u2,us[i2]? = some x2→x2.cells.toList[c2]? = some u2→kid w v (.own sz xs) i2 c2=some u2:=by
     intro i2 c2 x2 u2 jW w7
     subst h1
     have hf:=zDW h7 jW w7
     rw [← h8] at hf
     have:=zDd hf
     simp only [kid,zAr]
     rw [zCH h4.any];exact this
    refine ⟨u,a.block::(La++La'),Li',Lb'++Lb,?_,by simp,j2,fun w' Φ' A' q' Lj p' hA hs hb jc hrq hp=>?_,?_,?_⟩
    rotate_left 2
    ·intro w' hb q' p' hp i2 c2
     simp only [zBQ,zAZ,zAB,Option.bind_some,hx] at hp
     cases hp;subst h1
     simp only [kid,World.cell?,zAr]
     rw [hb a.block (by simp)]
    ·intro i2 c2 q2 hI h2
     simp only [Eng.child,zAZ,Option.bind_some] at h2
     cases jW:xs[i2]? with
     | none=>rw [jW] at h2;cases h2
     | some x2 =>
      rw [jW] at h2;simp only [Option.bind_some] at h2
      by_cases kY:i2=i
      ·subst kY
       rw [hx] at jW;cases jW
       obtain ⟨u2,L2,h3,qk,h5'⟩:=ho' c2 q2 (fun e=>hI (by rw [e])) h2
       exact ⟨u2,L2,jr _ _ _ _ hu h3,qk,fun b hb=>by have:=h5' b hb;simp at this ⊢;rcases this with h | h<;>simp [h]⟩
      ·obtain ⟨ux2,L2,h3,qk,h5'⟩:=ho i2 x2 kY jW
       have qE:zCa ux2=x2.isAgg:=by
        have h1:(us.map zCa)[i2]? = some (zCa ux2):=by simp [h3]
        have h2:(xs.map PV.isAgg)[i2]? = some x2.isAgg:=by simp [jW]
        rw [uG] at h1;rw [h1] at h2;simpa using h2
       obtain ⟨u2,Ma,Mi,Mb,uc,rfl,h7'',_⟩:=qk.cell h2 qE
       exact ⟨u2,Mi,jr _ _ _ _ h3 uc,h7'',fun b hb=>by have:=h5' b (by simp [hb]);simp at this ⊢;rcases this with h | h<;>simp [h]⟩
    ·subst h1
     have hf:=zDW h7 hu hu'
     rw [← h8] at hf
     have:=zDd hf
     simp only [kid,zAr]
     rw [zCH h4.any];exact this
    ·obtain ⟨js,hl,hg'⟩:=wN w' Φ' zB6 q' Lj (fun _ _ _ h=>h) hs (fun b h=>hb b (by simp at h ⊢;rcases h with h | h<;>simp [h])) jc hrq
     have hk:=hk w' Φ' zB6 _ _ (fun _ _ _ h=>h) hs (fun b h=>hb b (by simp at h ⊢;rcases h with h | h<;>simp [h])) js
     simp only [zBQ,zAZ,zAB,Option.bind_some,hx] at hp
     cases hp
     obtain ⟨e,h4⟩:=h4
     refine .inr ⟨a,n,r,us,La++(La'++Lj++Lb')++Lb,by simp,by simpa using h1,h2,by simpa using h3,⟨e,?_⟩,h5,?_,⟨h7,?_⟩,by simpa using h8,hk⟩
     ·rw [hb a.block (by simp)];exact h4
     ·intro y hy
      rcases List.mem_or_eq_of_mem_set hy with hy | hy
      ·exact h6 y hy
      ·rw [hy,hl];exact h6 x (List.mem_of_getElem? hx)
     ·rw [uG,zEe hx hg']
end
def zIp:Al→PV→zAO→Al
 | A,_,[]=>A
 | A,p,(i,c)::rest=>match child p i c with
  | some q=>zIp (zGk A p) q rest
  | none=>zB6
theorem zDS {p:PV} {i c:Nat} {q' p':PV} (h:zBQ p i c q'=some p'):p'.isAgg=p.isAgg:=by
 simp only [zBQ] at h
 cases p<;>simp only [zAZ,Option.bind_none,Option.bind_some] at h<;>try cases h
 case own sz xs =>
  cases hx:xs[i]?<;>rw [hx] at h<;>simp [zAB] at h
  subst h;rfl
 case box q =>
  cases i with
  | zero=>simp [zAB] at h;subst h;rfl
  | succ i=>simp at h
 case agg cs =>
  cases i with
  | zero=>simp [zAB,zAy] at h;subst h;rfl
  | succ i=>simp at h
def zB9:PV→PV→Prop
 | .own sz _,.own sz' _=>sz=sz'
 | .box _,.box _=>True
 | .omap _,.omap _=>True
 | _,_=>False
theorem zB9.refl {p:PV} (h:p.heavy0=true):zB9 p p:=by
 cases p<;>simp_all [PV.heavy0,zB9]
theorem zL5 {x q q':PV} {c:Nat} (hq:x.cells[c]? = some q) (hg:q'.isAgg=q.isAgg):(zAy x c [q']).cells=x.cells.set c q':=by
 cases hx:x.isAgg with
 | true =>
  cases x<;>simp [PV.isAgg] at hx
  rename_i cs
  have hc:c<cs.length:=(List.getElem?_eq_some_iff.1 hq).1
  show cs.take c++[q']++cs.drop (c+1)=cs.set c q'
  rw [List.set_eq_take_append_cons_drop,if_pos hc];simp
 | false =>
  have j3:x.cells=[x]:=by cases x<;>first | rfl | simp [PV.isAgg] at hx
  rw [j3] at hq ⊢
  have hc:c=0:=by have:=(List.getElem?_eq_some_iff.1 hq).1;simp at this;exact this
  subst hc;simp at hq;subst hq
  have he:zAy x 0 [q']=q':=by cases x<;>first | rfl | simp [PV.isAgg] at hx
  rw [he]
  rw [hx] at hg
  cases q'<;>first | rfl | simp [PV.isAgg] at hg
theorem zQ9 {p q q' p':PV} {i c:Nat} (hc:Eng.child p i c=some q) (hg:q'.isAgg=q.isAgg) (hp:zBQ p i c q'=some p') :
  Eng.child p' i c=some q'∧∀ i2 c2,(i2,c2)≠(i,c)→Eng.child p' i2 c2=Eng.child p i2 c2:=by
 simp only [Eng.child] at hc
 simp only [zBQ] at hp
 cases hh:zAZ p with
 | none=>rw [hh] at hc;cases hc
 | some xs =>
  rw [hh] at hc hp;simp only [Option.bind_some] at hc hp
  cases hx:xs[i]? with
  | none=>rw [hx] at hc;cases hc
  | some x =>
   rw [hx] at hc hp;simp only [Option.bind_some] at hc hp
   have yi:=zL5 hc hg
   have hi:i<xs.length:=(List.getElem?_eq_some_iff.1 hx).1
   have yN:c<x.cells.length:=(List.getElem?_eq_some_iff.1 hc).1
   have ql:zAZ p'=some (xs.set i (zAy x c [q'])):=by
    cases p<;>simp only [zAZ] at hh<;>try cases hh
    case agg cs =>
     have jd:i=0:=by simpa using hi
     subst jd
     simp only [List.getElem?_cons_zero,Option.some.injEq] at hx;subst hx
     simp only [zAy,List.set_cons_zero,zAB,Option.some.injEq] at hp ⊢
     subst hp;rfl
    case own sz =>
     simp only [zAB,Option.some.injEq] at hp
     subst hp;rfl
    case box q0 =>
     have jd:i=0:=by simpa using hi
     subst jd
     simp only [List.set_cons_zero,zAB,Option.some.injEq] at hp ⊢
     subst hp;rfl
   refine ⟨?_,fun i2 c2 hI=>?_⟩
   ·simp only [Eng.child,ql,Option.bind_some,List.getElem?_set_self hi,yi,List.getElem?_set_self yN]
   ·simp only [Eng.child,ql,hh,Option.bind_some]
    by_cases kY:i2=i
    ·subst kY
     rw [List.getElem?_set_self hi,hx];simp only [Option.bind_some,yi]
     rw [List.getElem?_set_ne (by intro e;exact hI (by rw [e]))]
    ·rw [List.getElem?_set_ne (by omega)]
section
variable {w w':World} {Φ Φ':Nat→Prop}
theorem zFa {A:Al}:∀ {pre:zAO} {p:PV} {v:Value} {L:List Nat},Rep w Φ A p v L→(∀ b∈L,w'.heap[b]? = w.heap[b]?)→zAN w' v p pre=zAN w v p pre
 | [],_,_,_,_,_=>rfl
 | (i, c)::rest,p,v,L,h,hb=>by
  rw [zA2,zA2]
  cases hc:Eng.child p i c with
  | none=>rfl
  | some q =>
   simp only [Option.bind_some]
   obtain ⟨u,La,Li,Lb,hk,rfl,hr,_⟩:=h.child hc
   have wN:kid w' v p i c=kid w v p i c:=by
    cases p<;>first | (simp [Eng.child,zAZ] at hc;done) | skip
    ·obtain ⟨vs,rfl,_⟩:=h;rfl
    ·obtain ⟨h1,h2,h3⟩ | ⟨a,n,r,us,L',h0,h1,h2,_⟩:=h
     ·subst h1;simp [Eng.child,zAZ] at hc
     ·subst h1;simp only [kid]
      exact World.cell?_of_block (w:=w) (hb _ (by rw [h0];simp [zAr]))
    ·obtain ⟨a,r,u0,L',h0,h1,_⟩:=h
     subst h1;simp only [kid]
     exact World.cell?_of_block (w:=w) (hb _ (by rw [h0];simp [zAr]))
   rw [wN,hk];simp only [Option.bind_some]
   exact zFa hr fun b h=>hb b (by simp [h])
theorem zLw {p p' q':PV} {i c:Nat} (hp:zBQ p i c q'=some p') (hh:p'.heavy0=true):zB9 p p':=by
 simp only [zBQ] at hp
 cases p<;>simp only [zAZ,Option.bind_none,Option.bind_some] at hp<;>try cases hp
 case own sz xs =>
  cases hx:xs[i]?<;>rw [hx] at hp<;>simp [zAB] at hp
  subst hp;rfl
 case box q =>
  cases i with
  | zero=>simp [zAB] at hp;subst hp;trivial
  | succ i=>simp at hp
 case agg cs =>
  cases i with
  | zero=>simp [zAB,zAy] at hp;subst hp;cases hh
  | succ i=>simp at hp
theorem Rep.zip : ∀ (pre:zAO) {A:Al} {p:PV} {v:Value} {L:List Nat} {q:PV},Rep w Φ A p v L→zAz p pre=some q →
  ∃ nv La Li Lb,zAN w v p pre=some (nv,q)∧L=La++Li++Lb∧Rep w Φ (zIp A p pre) q nv Li ∧
   (∀ w' Φ' (A':Al) q' Li' p',(∀ a v,a.isWay=true→A a v→A' a v)→zDf w w' Φ Φ'→(∀ b∈La++Lb,w'.heap[b]? = w.heap[b]?)→(pre≠[]→q'.isAgg=q.isAgg)→Rep w' Φ' (zIp A' p pre) q' nv Li' →
    zAv (fun _=>some q') p pre=some p'→Rep w' Φ' A' p' v (La++Li'++Lb)) ∧
   ∀ w' q' p',(∀ b∈La++Lb,w'.heap[b]? = w.heap[b]?)→(pre≠[]→q'.isAgg=q.isAgg)→zAv (fun _=>some q') p pre=some p' →
    ∀ pth nv2 np2,zAN w' v p' pth=some (nv2,np2)→np2.heavy0=true →
     (∃ rest,pth=pre++rest∧zAN w' nv q' rest=some (nv2,np2))∨∃ np0,zAN w v p pth=some (nv2,np0)∧zB9 np0 np2
 | [],A,p,v,L,q,h,hq=>by
  simp only [zAz] at hq;cases hq
  refine ⟨v,[],L,[],rfl,by simp,h,fun w' Φ' A' q' Li' p' hA hs hb _ hr hp=>?_,fun w' q' p' hb _ hp pth nv2 np2 hf hh=>?_⟩
  ·simp only [zAv] at hp;cases hp
   simpa [zIp] using hr
  ·simp only [zAv] at hp;cases hp
   exact .inl ⟨pth,rfl,hf⟩
 | (i, c) :: rest,A,p,v,L,q,h,hq=>by
  rw [zBY] at hq
  cases hc:Eng.child p i c with
  | none=>rw [hc] at hq;cases hq
  | some q1 =>
   rw [hc] at hq;simp only [Option.bind_some] at hq
   obtain ⟨u,La,Li,Lb,hu,rfl,hr,hk,jr,vB⟩:=h.child hc
   obtain ⟨nv,Ma,Mi,Mb,hf,rfl,qj,ud,uO⟩:=Rep.zip rest hr hq
   have yq:∀ q' q1',zAv (fun _=>some q') q1 rest=some q1'→q'.isAgg=q.isAgg→q1'.isAgg=q1.isAgg:=by
    intro q' q1' hm jc
    cases rest with
    | nil =>
     simp only [zAv] at hm;cases hm
     simp only [zAz] at hq;cases hq
     exact jc
    | cons x rest =>
     obtain ⟨i2,c2⟩:=x
     rw [zBl] at hm
     cases jE:Eng.child q1 i2 c2 with
     | none=>rw [jE] at hm;cases hm
     | some q2 =>
      rw [jE] at hm;simp only [Option.bind_some] at hm
      cases vS:zAv (fun _=>some q') q2 rest with
      | none=>rw [vS] at hm;cases hm
      | some q2'=>rw [vS] at hm;exact zDS (by simpa using hm)
   refine ⟨nv,La++Ma,Mi,Mb++Lb,?_,by simp,?_,fun w' Φ' A' q' Li' p' hA hs hb jc j2 hp=>?_,fun w' q' p' hb jc hp pth nv2 np2 jt hh=>?_⟩
   rotate_left 3
   ·rw [zBl,hc] at hp;simp only [Option.bind_some] at hp
    cases hm:zAv (fun _=>some q') q1 rest with
    | none=>rw [hm] at hp;cases hp
    | some q1' =>
     rw [hm] at hp;simp only [Option.bind_some] at hp
     have y6:∀ b∈La++Lb,w'.heap[b]? = w.heap[b]?:=fun b h=>hb b (by simp at h ⊢;rcases h with h | h<;>simp [h])
     have j4:∀ b∈Ma++Mb,w'.heap[b]? = w.heap[b]?:=fun b h=>hb b (by simp at h ⊢;rcases h with h | h<;>simp [h])
     have hg:q1'.isAgg=q1.isAgg:=yq q' q1' hm (jc (by simp))
     obtain ⟨y9,hoc⟩:=zQ9 hc hg hp
     cases pth with
     | nil =>
      simp only [zAN,Option.some.injEq,Prod.mk.injEq] at jt
      obtain ⟨rfl,rfl⟩:=jt
      exact .inr ⟨p,rfl,zLw hp hh⟩
     | cons x pth =>
      obtain ⟨i2,c2⟩:=x
      rw [zA2] at jt
      by_cases yz:(i2,c2)=(i,c)
      ·cases yz
       rw [y9] at jt;simp only [Option.bind_some] at jt
       rw [jr w' y6 q1' p' hp,hu] at jt;simp only [Option.bind_some] at jt
       rcases uO w' q' q1' j4 (fun _=>jc (by simp)) hm pth nv2 np2 jt hh with ⟨rst,rfl,h3⟩ | ⟨np0,h3,h4⟩
       ·exact .inl ⟨rst,rfl,h3⟩
       ·refine .inr ⟨np0,?_,h4⟩
        rw [zA2,hc];simp only [Option.bind_some];rw [hu];exact h3
      ·rw [hoc i2 c2 yz] at jt
       cases jE:Eng.child p i2 c2 with
       | none=>rw [jE] at jt;cases jt
       | some q2 =>
        rw [jE] at jt;simp only [Option.bind_some] at jt
        obtain ⟨u2,L2,h3,h4,h5⟩:=vB i2 c2 q2 yz jE
        rw [jr w' y6 q1' p' hp,h3] at jt;simp only [Option.bind_some] at jt
        rw [zFa h4 fun b yH=>y6 b (h5 b yH)] at jt
        refine .inr ⟨np2,?_,zB9.refl hh⟩
        rw [zA2,jE];simp only [Option.bind_some];rw [h3];exact jt
   ·rw [zA2,hc];simp only [Option.bind_some];rw [hu];simpa using hf
   ·simpa only [zIp,hc] using qj
   ·rw [zBl,hc] at hp;simp only [Option.bind_some] at hp
    cases hm:zAv (fun _=>some q') q1 rest with
    | none=>rw [hm] at hp;cases hp
    | some q1' =>
     rw [hm] at hp;simp only [Option.bind_some] at hp
     simp only [zIp,hc] at j2
     have h2:=ud w' Φ' (zGk A' p) q' Li' q1' (zKA hA) hs (fun b h=>hb b (by simp at h ⊢;rcases h with h | h<;>simp [h])) (fun _=>jc (by simp)) j2 hm
     have hg:q1'.isAgg=q1.isAgg:=yq q' q1' hm (jc (by simp))
     have:=hk w' Φ' A' q1' _ p' hA hs (fun b h=>hb b (by simp at h ⊢;rcases h with h | h<;>simp [h])) hg h2 hp
     simpa using this
end
section
variable {w:World} {Φ:Nat→Prop} {rv:Nat→Value} {E:Nat→PV}
theorem zL7 {r:Nat} {pre:zAO} {p:PV} {v:Value} {L:List Nat} (hr:r<zAb) (hf:zAN w (rv r) (E r).unlock pre=some (v,p))
  (h:Rep w Φ (zA1 w rv E) p v L):Rep w Φ (zA1 w rv E) (zHc r pre p) v []:=by
 cases p with
 | own sz xs =>
  refine ⟨rfl,hr,?_,?_⟩
  ·obtain ⟨h1,h2,h3⟩ | ⟨a,n,c,us,L',h0,h1,h2,h3,h4⟩:=h
   ·subst h1;exact ⟨none,0,h3,by simp,by simp,by simp⟩
   ·exact ⟨some a,n,h1,h3,by simp,fun b hb=>by cases hb;exact h2⟩
  ·intro nv np hn _
   rw [hf] at hn;cases hn
   refine ⟨sz,xs,rfl,rfl,?_⟩
   obtain ⟨h1,h2,h3⟩ | ⟨a,n,c,us,L',h0,h1,h2,h3,h4⟩:=h
   ·subst h1;subst h3;exact ⟨rfl,rfl⟩
   ·subst h1
    have:zAr a (0*sz)=a:=by cases a;simp_all [zAr]
    exact ⟨by rw [this];rfl,by simpa using h3⟩
 | box q =>
  obtain ⟨a,c,u,L',h0,h1,h2,h4⟩:=h
  refine ⟨rfl,hr,a,h1,h2,?_⟩
  intro nv np hn a' ha
  rw [hf] at hn;cases hn;subst h1
  have:zAr a 0=a:=by cases a;simp_all [zAr]
  simp only [zA4,this] at ha;cases ha;rfl
 | omap es =>
  obtain ⟨b,ents,h0,h1,h4⟩:=h
  refine ⟨rfl,hr,⟨b,h1⟩,?_⟩
  intro nv np hn es' he
  rw [hf] at hn;cases hn;rfl
 | agg cs=>rfl
 | tup cs=>rfl
 | lock q=>rfl
 | _=>simp_all [zHc,Rep]
end
end Go.Eng
namespace Go.Eng
open Go
theorem zDD {p q:PV} (h:zB9 p q):p.heavy0=true:=by cases p<;>cases q<;>first | rfl | cases h
def zA3:PV→Nat×zAO
 | .addr r pre .. => (r,pre)
 | .bor r pre .. => (r,pre)
 | .bsl r pre .. => (r,pre)
 | .bmap r pre=>(r,pre)
 | _=>(0,[])
theorem zEg {nv:Value} {p q:PV} {i c:Nat} (h:zB9 p q):zA4 nv p i c=zA4 nv q i c:=by
 cases p<;>cases q<;>simp only [zB9] at h
 ·subst h;cases nv with
  | slice a _ _=>cases a<;>rfl
  | pointer a=>cases a<;>rfl
  | _=>rfl
 ·cases nv with
  | pointer a=>cases a<;>cases i<;>rfl
  | slice a _ _=>cases a<;>rfl
  | _=>rfl
 ·cases nv with
  | pointer a=>cases a<;>cases i<;>rfl
  | slice a _ _=>cases a<;>rfl
  | _=>rfl
section
variable {w w':World} {Φ Φ':Nat→Prop} {rv rv':Nat→Value} {E E':Nat→PV}
theorem zA1.mono {a:PV} {v:Value} (h:zA1 w rv E a v)
  (hf:∀ nv np,zAN w' (rv' (zA3 a).1) (E' (zA3 a).1).unlock (zA3 a).2=some (nv,np)→np.heavy0=true →
   ∃ np0,zAN w (rv (zA3 a).1) (E (zA3 a).1).unlock (zA3 a).2=some (nv,np0)∧zB9 np0 np):zA1 w' rv' E' a v:=by
 have key:∀ nv np i c a',zA4 nv np i c=some a'→np.heavy0=true:=by
  intro nv np i c a' h
  cases np<;>first | rfl | (simp [zA4] at h)
 have key2:∀ nv np np0 i c a',zA4 nv np i c=some a'→zB9 np0 np→zA4 nv np0 i c=some a':=by
  intro nv np np0 i c a' h hl;rw [zEg hl];exact h
 cases a<;>simp only [zA1] at h ⊢
 case addr r pre i c sh =>
  obtain ⟨hr,a,h1,h2,h3⟩:=h
  refine ⟨hr,a,h1,h2,fun nv np hn a' ha=>?_⟩
  obtain ⟨np0,kL,hl⟩:=hf nv np hn (key _ _ _ _ _ ha)
  exact h3 nv np0 kL a' (key2 _ _ _ _ _ _ ha hl)
 case bor r pre z lo n =>
  obtain ⟨hr,h1,h3⟩:=h
  refine ⟨hr,h1,fun nv np hn hh=>?_⟩
  obtain ⟨np0,kL,hl⟩:=hf nv _ hn hh
  obtain ⟨sz,xs,he,hz,jZ⟩:=h3 nv np0 kL (zDD hl)
  subst he
  cases np<;>simp only [zB9] at hl
  subst hl
  exact ⟨_,_,rfl,hz,jZ⟩
 case bsl r pre i c sz ag n =>
  obtain ⟨hr,a,cap,h1,h2,jb,h3⟩:=h
  refine ⟨hr,a,cap,h1,h2,jb,fun nv np hn a' ha=>?_⟩
  obtain ⟨np0,kL,hl⟩:=hf nv np hn (key _ _ _ _ _ ha)
  exact h3 nv np0 kL a' (key2 _ _ _ _ _ _ ha hl)
 case bmap r pre =>
  obtain ⟨hr,h1,h3⟩:=h
  refine ⟨hr,h1,fun nv np hn es he=>?_⟩
  subst he
  obtain ⟨np0,kL,hl⟩:=hf nv _ hn rfl
  cases np0<;>simp only [zB9] at hl
  exact h3 nv _ kL _ rfl
theorem zEj:∀ {ps:List PV} {i:Nat} {p:PV},zCU ps=false→ps[i]? = some p→p.heavy=false
 | [],_,_,_,h=>by simp at h
 | q::ps,0,p,hh,h=>by
  simp at h;subst h
  simp only [zCU,Bool.or_eq_false_iff] at hh;exact hh.1
 | q::ps,i+1,p,hh,h=>by
  simp only [zCU,Bool.or_eq_false_iff] at hh
  exact zEj hh.2 (by simpa using h)
theorem zEn:∀ {pre:zAO} {p:PV} {v nv:Value} {np:PV},p.heavy=false→zAN w v p pre=some (nv,np)→np.heavy=false
 | [],p,v,nv,np,hp,h=>by simp only [zAN] at h;cases h;exact hp
 | (i, c)::rest,p,v,nv,np,hp,h=>by
  rw [zA2] at h
  cases hc:Eng.child p i c with
  | none=>rw [hc] at h;cases h
  | some q =>
   rw [hc] at h;simp only [Option.bind_some] at h
   cases hk:kid w v p i c with
   | none=>rw [hk] at h;cases h
   | some u =>
    rw [hk] at h;simp only [Option.bind_some] at h
    refine zEn ?_ h
    cases p<;>first | (simp [Eng.child,zAZ] at hc;done) | (simp [PV.heavy] at hp;done) | skip
    rename_i cs
    cases i with
    | zero=>simp [Eng.child,zAZ,PV.cells] at hc;exact zEj hp hc
    | succ i=>simp [Eng.child,zAZ] at hc
theorem zFN {p:PV} (h:p.heavy0=true):p.heavy=true:=by
 cases p<;>simp_all [PV.heavy0,PV.heavy]
structure Conf (w0:World) (U Φ0:Nat→Prop) (w:World) (Φ:Nat→Prop) (rv:Nat→Value) (E:Nat→PV) (L:Nat→List Nat):Prop where
 rep:∀ s,Rep w Φ (zA1 w rv E) (E s) (rv s) (L s)
 nodup:∀ s,(L s).Nodup
 disj:∀ s s',s≠s'→∀ b∈L s,b∉L s'
 own:∀ s,∀ b∈L s,b<w.heap.size∧¬ Φ b∧(U b∨w0.heap.size≤b)
 frz:∀ b,Φ b→b<w.heap.size∧(Φ0 b∨U b∨w0.heap.size≤b)
 frz0:∀ b,Φ0 b→Φ b
 size:w0.heap.size≤w.heap.size
 kept:∀ b,b<w0.heap.size→¬ U b→w.heap[b]? = w0.heap[b]?
 os:w.os=w0.os
 tape:w.tape=w0.tape
 output:w.output=w0.output
def upd {α:Type} (f:Nat→α) (s:Nat) (x:α):Nat→α:=fun t=>if t=s then x else f t
theorem zAj {α:Type} {f:Nat→α} {s:Nat} {x:α}:upd f s x s=x:=if_pos rfl
theorem zAg {α:Type} {f:Nat→α} {s t:Nat} {x:α} (h:t≠s):upd f s x t=f t:=if_neg h
theorem zBT {A:Al} {p:PV} {v:Value} {L:List Nat} (h:Rep w Φ A p v L):Rep w Φ A p.unlock v L:=by cases p<;>exact h
theorem zC4:∀ (a b:zAO) (v:Value) (p:PV),zAN w v p (a++b)=(zAN w v p a).bind fun x=>zAN w x.1 x.2 b
 | [],b,v,p=>rfl
 | (i,c)::a,b,v,p=>by
  rw [List.cons_append,zA2,zA2]
  cases Eng.child p i c with
  | none=>rfl
  | some q =>
   simp only [Option.bind_some]
   cases kid w v p i c with
   | none=>rfl
   | some u=>simp only [Option.bind_some];exact zC4 a b u q
theorem zKh {v:Value} {p:PV} {i c:Nat}:zAN w v p [(i,c)]=(Eng.child p i c).bind fun q=>(kid w v p i c).bind fun u=>some (u,q):=by
 rw [zA2];rfl
theorem zAX.part {A:Al}:∀ {ps:List PV} {us:List Value} {L:List Nat},zAX w Φ A ps us L→∀ c n,∃ L',zAX w Φ A ((ps.drop c).take n) ((us.drop c).take n) L'
 | [],us,L,h,c,n=>by rw [h.1];exact ⟨[],by simp [zAX]⟩
 | p::ps,us,L,h,0,0=>⟨[],by simp [zAX]⟩
 | p::ps,us,L,h,0,n+1=>by
  obtain ⟨v,vs,L1,L2,rfl,rfl,h1,h2⟩:=h
  obtain ⟨L',h'⟩:=h2.part 0 n
  exact ⟨L1++L',v,_,L1,L',rfl,rfl,h1,by simpa using h'⟩
 | p::ps,us,L,h,c+1,n=>by
  obtain ⟨v,vs,L1,L2,rfl,rfl,h1,h2⟩:=h
  simpa using h2.part c n
theorem zGO {p:PV} {xs:List PV} (h:zA6 p=some xs):zAZ p=some xs:=by cases p<;>first | exact h | cases h
theorem zBN {a:Addr} (h:a.spot=none) (j:Nat):a.add j=zAr a j:=by
 obtain ⟨b,o,sp⟩:=a
 simp only at h;subst h
 simp only [Addr.add,zAr]
 split
 ·rename_i hj;subst hj;rfl
 ·rfl
theorem zF0 (a:Addr) (k j:Nat):(zAr a k).add j=zAr a (k+j):=by
 rw [zBN rfl];simp [zAr,Nat.add_assoc]
theorem zSI {nv:Value} {np:PV} {xs:List PV} {i c j:Nat} {ad:Addr} (h:zA6 np=some xs) (ha:zA4 nv np i c=some ad):kid w nv np i (c+j)=w.cell? (ad.add j):=by
 cases np<;>simp only [zA6] at h<;>try cases h
 ·cases nv with
  | slice a _ _ =>
   cases a with
   | none=>cases ha
   | some a=>simp only [zA4] at ha;cases ha;rw [zF0];simp [kid,Nat.add_assoc]
  | pointer a=>cases a<;>cases ha
  | _=>cases ha
 ·cases nv with
  | pointer a =>
   cases a with
   | none=>cases i<;>cases ha
   | some a=>cases i<;>simp only [zA4] at ha<;>cases ha;rw [zF0];simp [kid,Nat.add_assoc]
  | slice a _ _=>cases a<;>cases ha
  | _=>cases ha
theorem zFW {A:Al} {p:PV} {a:PV} {v:Value} (h:zGk A p a v):A a v:=by
 cases p<;>first | exact h | exact h.elim
theorem zEr:∀ {pre:zAO} {A:Al} {p:PV} {a:PV} {v:Value},zIp A p pre a v→A a v
 | [],_,_,_,_,h=>h
 | (i,c)::rest,A,p,a,v,h=>by
  simp only [zIp] at h
  cases hc:Eng.child p i c with
  | none=>rw [hc] at h;exact h.elim
  | some q=>rw [hc] at h;exact zFW (zEr h)
theorem Rep.cellsAll {A:Al} {p:PV} {v:Value} {L:List Nat} (h:Rep w Φ A p v L) (hn:zCa v=p.isAgg):zAX w Φ A p.cells v.cells.toList L:=by
 cases hp:p.isAgg with
 | true =>
  cases p<;>simp [PV.isAgg] at hp
  obtain ⟨vs,rfl,h⟩:=h
  exact h
 | false =>
  have j3:p.cells=[p]:=by cases p<;>first | rfl | simp [PV.isAgg] at hp
  have hv:v.cells=#[v]:=by rw [hp] at hn;cases v<;>first | rfl | simp [zCa] at hn
  rw [j3,hv]
  exact ⟨v,[],L,[],rfl,by simp,h,rfl,rfl⟩
theorem zQF {A:Al} {np:PV} {nv:Value} {Li:List Nat} (h:Rep w Φ A np nv Li) {xs:List PV} (hx:zA6 np=some xs) {i:Nat} {x:PV} (hi:xs[i]? = some x) (c:Nat) :
  ∃ ux ad Lx,(∀ b∈Lx,b∈Li)∧zA4 nv np i c=some ad∧ad.spot=none∧(∀ k u,ux.cells.toList[k]? = some u→∀ j,k=c+j→w.cell? (ad.add j)=some u)∧zCa ux=x.isAgg∧ux.cells.size=x.cells.length∧zAX w Φ (zGk A np) x.cells ux.cells.toList Lx:=by
 cases np<;>simp only [zA6] at hx<;>try cases hx
 case own sz =>
  obtain ⟨h1,h2,h3⟩ | ⟨a,n,r,us,L',rfl,h1,h2,h3,h4,h5,h6,⟨h7,uG⟩,h8,h9⟩:=h
  ·subst h1;simp at hi
  ·obtain ⟨ux,La,Lx,Lb,hu,rfl,hr,_,_⟩:=h9.split hi
   have hg:zCa ux=x.isAgg:=by
    have h1:(us.map zCa)[i]? = some (zCa ux):=by simp [hu]
    have h2:(xs.map PV.isAgg)[i]? = some x.isAgg:=by simp [hi]
    rw [uG] at h1;rw [h1] at h2;simpa using h2
   subst h1
   refine ⟨ux,zAr a (i*sz+c),Lx,fun b hb=>by simp [hb],rfl,rfl,?_,hg,?_,hr.cellsAll hg⟩
   ·intro k u hk j hkj
    have hf:=zDW h7 hu hk
    rw [← h8] at hf
    have:=zDd hf
    rw [zF0,show i*sz+c+j=i*sz+k by omega]
    simp only [zAr];rw [zCH h4.any];exact this
   ·rw [h7 ux (List.mem_of_getElem? hu),h6 x (List.mem_of_getElem? hi)]
 case box q0 =>
  obtain ⟨a,r,u0,L',rfl,h1,h2,h4,h5,⟨h6,uc⟩,h7⟩:=h
  have jd:i=0:=by
   cases i with
   | zero=>rfl
   | succ i=>simp at hi
  subst jd;simp at hi;subst hi
  subst h1
  refine ⟨u0,zAr a c,L',fun b hb=>by simp [hb],rfl,rfl,?_,uc,h6,h7.cellsAll uc⟩
  intro k u hk j hkj
  have:=zDd (c:=r) (o:=a.off) (n:=q0.cells.length) (k:=k) (u:=u) (by rw [h5];exact hk)
  rw [zF0,← hkj]
  simp only [zAr];rw [zCH h4.any];exact this
theorem zE6 {r i:Nat} {pre:zAO} (hr:r<zAb):∀ {ps:List PV} {us:List Value} {L:List Nat} {c:Nat},zAX w Φ (zA1 w rv E) ps us L →
  (∀ j p u,ps[j]? = some p→us[j]? = some u→zAN w (rv r) (E r).unlock (pre++[(i,c+j)])=some (u,p))→zAX w Φ (zA1 w rv E) (zBx r pre i c ps) us []
 | [],us,L,c,h,_=>⟨h.1,rfl⟩
 | p::ps,us,L,c,h,hf=>by
  obtain ⟨v,vs,L1,L2,rfl,rfl,h1,h2⟩:=h
  refine ⟨v,vs,[],[],rfl,rfl,zL7 hr (hf 0 p v rfl rfl) h1,zE6 hr h2 fun j q u hq hu=>?_⟩
  have:=hf (j+1) q u (by simpa using hq) (by simpa using hu)
  rwa [show c+1+j=c+(j+1) by omega]
section
variable {w0:World} {U Φ0:Nat→Prop} {L:Nat→List Nat}
theorem Conf.view (h:Conf w0 U Φ0 w Φ rv E L) {s:Nat} (hs:s<zAb):Rep w Φ (zA1 w rv E) (view s (E s)) (rv s) []:=by
 have hr:=zBT (h.rep s)
 have hv:Eng.view s (E s)=zSq s (E s).unlock:=by cases E s<;>rfl
 rw [hv]
 have hf:zAN w (rv s) (E s).unlock []=some (rv s,(E s).unlock):=rfl
 have key:∀ p,(E s).unlock=p→Rep w Φ (zA1 w rv E) (zSq s p) (rv s) []:=by
  intro p hp
  rw [hp] at hr hf
  cases p with
  | agg cs =>
   obtain ⟨vs,hv,hr⟩:=hr
   refine ⟨vs,hv,zE6 hs hr fun j p u hj hu=>?_⟩
   rw [zC4,hp,hf,hv]
   show (zAN w (.agg vs) (.agg cs) [(0,0+j)])=_
   rw [zKh]
   have hu:vs[j]? = some u:=by simpa using hu
   simp [Eng.child,zAZ,PV.cells,kid,hj,hu]
  | tup cs=>rfl
  | _=>exact zL7 (pre:=[]) hs (by rw [hp];exact hf) hr
 exact key _ rfl
theorem Conf.cells (h:Conf w0 U Φ0 w Φ rv E L) {r:Nat} {pre:zAO} {i c n:Nat} {a:Bool} {qs:List PV} (hr:r<zAb) (hc:zAw r (E r) pre i c n=some (a,qs)) :
  ∃ nv np ad us,zAN w (rv r) (E r).unlock pre=some (nv,np)∧zA4 nv np i c=some ad∧ad.spot=none∧us.length=n∧(∀ j u,us[j]? = some u→w.cell? (ad.add j)=some u)∧zAX w Φ (zA1 w rv E) qs us []:=by
 simp only [zAw] at hc
 cases hn:zAz (E r).unlock pre with
 | none=>rw [hn] at hc;cases hc
 | some np =>
  rw [hn] at hc;simp only at hc
  obtain ⟨nv,La,Li,Lb,hf,hL,hX,_,_⟩:=Rep.zip pre (zBT (h.rep r)) hn
  cases hx:zA6 np with
  | none=>rw [hx] at hc;cases hc
  | some xs =>
   rw [hx] at hc;simp only at hc
   cases hxi:xs[i]? with
   | none=>rw [hxi] at hc;cases hc
   | some x =>
    rw [hxi] at hc;simp only at hc
    by_cases yP:c+n≤x.cells.length
    ·rw [Nat.ble_eq_true_of_le yP] at hc
     simp only [cond_true,Option.some.injEq,Prod.mk.injEq] at hc
     obtain ⟨rfl,rfl⟩:=hc
     obtain ⟨ux,ad,Lx,hA,jG,y1,je,w8,yE,ue⟩:=zQF hX hx hxi c
     have hZ:ux.cells.toList.length=x.cells.length:=(ue.length)
     refine ⟨nv,np,ad,(ux.cells.toList.drop c).take n,hf,jG,y1,by simp at hZ ⊢;omega,?_,?_⟩
     ·intro j u hj
      simp only [List.getElem?_take,List.getElem?_drop] at hj
      split at hj
      ·exact je (c+j) u hj j rfl
      ·cases hj
     ·obtain ⟨L',y7⟩:=ue.part c n
      refine zE6 hr (y7.mono (A':=zA1 w rv E) zDf.refl (fun a v hw ha=>zEr (zFW ha)) (fun _ _=>rfl)) fun j p u hp hu=>?_
      simp only [List.getElem?_take,List.getElem?_drop] at hp hu
      split at hp
      ·rename_i hjn
       rw [if_pos hjn] at hu
       rw [zC4,hf];simp only [Option.bind_some];rw [zKh]
       have y9:Eng.child np i (c+j)=some p:=by
        simp only [Eng.child]
        rw [zGO hx];simp [hxi,hp]
       rw [y9];simp only [Option.bind_some]
       rw [zSI hx jG (j:=j),je (c+j) u hu j rfl];rfl
      ·cases hp
    ·have:Nat.ble (c+n) x.cells.length=false:=by
      cases hb:Nat.ble (c+n) x.cells.length with
      | false=>rfl
      | true=>exact absurd (Nat.le_of_ble_eq_true hb) yP
     rw [this] at hc;simp at hc
theorem Conf.put (h:Conf w0 U Φ0 w Φ rv E L) {s:Nat} {p:PV} {v:Value} (hp:p.heavy=false) (hr:Rep w Φ (zA1 w rv E) p v []) :
  Conf w0 U Φ0 w Φ (upd rv s v) (upd E s p) (upd L s []):=by
 have hA:∀ a u,a.isWay=true→zA1 w rv E a u→zA1 w (upd rv s v) (upd E s p) a u:=by
  intro a u _ ha
  refine ha.mono fun nv np hn hh=>?_
  by_cases hs:(zA3 a).1=s
  ·rw [hs,zAj,zAj] at hn
   have hu:p.unlock=p:=by cases p<;>first | rfl | simp [PV.heavy] at hp
   rw [hu] at hn
   have:=zEn hp hn
   rw [zFN hh] at this;cases this
  ·rw [zAg hs,zAg hs] at hn
   exact ⟨np,hn,zB9.refl hh⟩
 refine {h with rep:=?_,nodup:=?_,disj:=?_,own:=?_}
 ·intro t
  by_cases ht:t=s
  ·subst ht;rw [zAj,zAj,zAj];exact hr.mono zDf.refl hA (by simp)
  ·rw [zAg ht,zAg ht,zAg ht];exact (h.rep t).mono zDf.refl hA (fun _ _=>rfl)
 ·intro t
  by_cases ht:t=s
  ·subst ht;rw [zAj];simp
  ·rw [zAg ht];exact h.nodup t
 ·intro t t' hI b hb
  by_cases ht:t=s
  ·subst ht;rw [zAj] at hb;simp at hb
  ·rw [zAg ht] at hb
   by_cases gg:t'=s
   ·subst gg;rw [zAj];simp
   ·rw [zAg gg];exact h.disj t t' hI b hb
 ·intro t b hb
  by_cases ht:t=s
  ·subst ht;rw [zAj] at hb;simp at hb
  ·rw [zAg ht] at hb;exact h.own t b hb
end
end
def PV.dull:PV→Bool
 | .own .. | .box .. | .omap .. | .agg _ | .lock _=>false
 | _=>true
structure Tame (f:PV→PV):Prop where
 agg:∀ p,(f p).isAgg=p.isAgg
 dull:∀ p,p.isWay=true→(f p).dull=true
theorem zNY {p:PV} (h:p.dull=true):zAZ p=none:=by cases p<;>first | rfl | cases h
theorem zNu {p:PV} (h:p.dull=true):p.heavy0=false:=by cases p<;>first | rfl | cases h
theorem zNI {p:PV} (h:p.dull=true):p.unlock=p:=by cases p<;>first | rfl | cases h
theorem zGZ {f:PV→PV}:∀ (ps:List PV) (i:Nat),(zCC f ps)[i]? = (ps[i]?).map fun p=>p.mapW f
 | [],i=>by simp [zCC]
 | p::ps,0=>by simp [zCC]
 | p::ps,i+1=>by simp only [zCC,List.getElem?_cons_succ];exact zGZ ps i
theorem zPR {f:PV→PV} (hf:Tame f) (q:PV) (c:Nat):(q.mapW f).cells[c]? = (q.cells[c]?).map fun p=>p.mapW f:=by
 cases hq:q.isAgg with
 | true =>
  cases q<;>simp [PV.isAgg] at hq
  simp only [PV.mapW,PV.cells];exact zGZ _ _
 | false =>
  have h1:q.cells=[q]:=by cases q<;>first | rfl | simp [PV.isAgg] at hq
  have h2:(q.mapW f).isAgg=false:=by rw [zFO hf.agg];exact hq
  have h3:(q.mapW f).cells=[q.mapW f]:=by revert h2;cases q.mapW f<;>intro h2<;>first | rfl | simp [PV.isAgg] at h2
  rw [h1,h3];cases c<;>simp
theorem zFZ {f:PV→PV} {p:PV} (h:p.isWay=true):p.mapW f=f p:=by cases p<;>first | rfl | cases h
theorem zDo {f:PV→PV} (hf:Tame f) (p:PV):(p.mapW f).unlock=p.unlock.mapW f:=by
 cases hp:p.isWay with
 | true =>
  have h1:p.unlock=p:=by cases p<;>first | rfl | cases hp
  rw [h1,zFZ hp,zNI (hf.dull p hp)]
 | false=>cases p<;>first | rfl | cases hp
section
variable {w w':World} {Φ Φ':Nat→Prop} {rv rv':Nat→Value} {E E':Nat→PV}
theorem zVa {v:Value} {p q:PV} {i c:Nat}:kid w v (.box p) i c=kid w v (.box q) i c:=by
 cases v with
 | pointer a=>cases a<;>rfl
 | slice a _ _=>cases a<;>rfl
 | _=>rfl
theorem zVj {v:Value} {p q:List PV} {i c:Nat}:kid w v (.agg p) i c=kid w v (.agg q) i c:=by
 cases v with
 | pointer a=>cases a<;>rfl
 | slice a _ _=>cases a<;>rfl
 | _=>rfl
theorem zCK {f:PV→PV} (hf:Tame f):∀ {pre:zAO} {p:PV} {v nv:Value} {np':PV},zAN w v (p.mapW f) pre=some (nv,np')→np'.heavy0=true →
  ∃ np,zAN w v p pre=some (nv,np)∧zB9 np np'
 | [],p,v,nv,np',h,hh=>by
  simp only [zAN,Option.some.injEq,Prod.mk.injEq] at h
  obtain ⟨rfl,rfl⟩:=h
  refine ⟨p,rfl,?_⟩
  cases hp:p.isWay with
  | true=>rw [zFZ hp,zNu (hf.dull p hp)] at hh;cases hh
  | false=>cases p<;>first | (cases hp;done) | (simp [PV.mapW,PV.heavy0] at hh;done) | simp [PV.mapW,zB9]
 | (i, c) :: rest,p,v,nv,np',h,hh=>by
  rw [zA2] at h
  cases hc:Eng.child (p.mapW f) i c with
  | none=>rw [hc] at h;cases h
  | some q' =>
   rw [hc] at h;simp only [Option.bind_some] at h
   cases hk:kid w v (p.mapW f) i c with
   | none=>rw [hk] at h;cases h
   | some u =>
    rw [hk] at h;simp only [Option.bind_some] at h
    have go:∀ q,Eng.child p i c=some q→kid w v p i c=some u→q'=q.mapW f→∃ np,zAN w v p ((i,c)::rest)=some (nv,np)∧zB9 np np':=by
     intro q h1 h2 h3
     subst h3
     obtain ⟨np,hn,hl⟩:=zCK hf h hh
     exact ⟨np,by rw [zA2,h1];simp only [Option.bind_some];rw [h2];exact hn,hl⟩
    cases hp:p.isWay with
    | true =>
     rw [zFZ hp] at hc
     simp [Eng.child,zNY (hf.dull p hp)] at hc
    | false =>
     cases p<;>first | (cases hp;done) | (simp [PV.mapW,Eng.child,zAZ] at hc;done) | skip
     case own sz xs=>exact ⟨np',by rw [zA2];simp only [PV.mapW] at hc hk;rw [hc];simp only [Option.bind_some];rw [hk];exact h,zB9.refl hh⟩
     case box q0 =>
      simp only [PV.mapW,Eng.child,zAZ,Option.bind_some] at hc
      cases i with
      | succ i=>simp at hc
      | zero =>
       simp only [List.getElem?_cons_zero,Option.bind_some] at hc
       rw [zPR hf] at hc
       cases hq:q0.cells[c]? with
       | none=>rw [hq] at hc;cases hc
       | some q =>
        rw [hq] at hc;simp only [Option.map_some,Option.some.injEq] at hc
        exact go q (by simp [Eng.child,zAZ,hq]) (by rw [← hk,PV.mapW];exact zVa) hc.symm
     case agg cs =>
      simp only [PV.mapW,Eng.child,zAZ,Option.bind_some] at hc
      cases i with
      | succ i=>simp at hc
      | zero =>
       simp only [List.getElem?_cons_zero,Option.bind_some,PV.cells] at hc
       rw [zGZ] at hc
       cases hq:cs[c]? with
       | none=>rw [hq] at hc;cases hc
       | some q =>
        rw [hq] at hc;simp only [Option.map_some,Option.some.injEq] at hc
        exact go q (by simp [Eng.child,zAZ,PV.cells,hq]) (by rw [← hk,PV.mapW];exact zVj) hc.symm
section
variable {w0:World} {U Φ0:Nat→Prop} {L L':Nat→List Nat}
theorem zCM {a:PV} {v:Value} (h:zA1 w rv E a v):(zA3 a).1<zAb:=by
 cases a<;>simp only [zA1] at h<;>first | exact h.1 | exact h.elim
theorem zCz (h:Conf w0 U Φ0 w Φ rv E L) {f:PV→PV} (hf:Tame f) {a:PV} {v:Value} (ha:zA1 w rv E a v) (hE:E' (zA3 a).1=(E (zA3 a).1).mapW f) (hv:rv' (zA3 a).1=rv (zA3 a).1)
  (hb:∀ b∈L (zA3 a).1,w'.heap[b]? = w.heap[b]?):zA1 w' rv' E' a v:=by
 refine ha.mono fun nv np hn hh=>?_
 rw [hE,hv,zDo hf] at hn
 obtain ⟨np0,kL,hl⟩:=zCK hf hn hh
 rw [zFa (zBT (h.rep _)) hb] at kL
 exact ⟨np0,kL,hl⟩
theorem zLh {a:PV} {v:Value} (ha:zA1 w rv E a v) (hE:(E' (zA3 a).1).unlock.heavy=false):zA1 w' rv' E' a v:=by
 refine ha.mono fun nv np hn hh=>?_
 have:=zEn hE hn
 rw [zFN hh] at this;cases this
theorem Conf.step2 (h:Conf w0 U Φ0 w Φ rv E L) (σ:Nat→Option Nat) (f:PV→PV) (hf:Tame f)
  (hσ:∀ s s' t,σ s=some t→σ s'=some t→s=s')
  (hE:∀ s t,σ s=some t→E' s=(E t).mapW f∧rv' s=rv t∧L' s=L t)
  (hN:∀ s,σ s=none→Rep w' Φ (zA1 w' rv' E') (E' s) (rv' s) (L' s))
  (hA:∀ a v,a.isWay=true→zA1 w rv E a v→Rep w' Φ (zA1 w' rv' E') (f a) v [])
  (hd:∀ s,σ s=none→(L' s).Nodup) (wO:∀ s s',σ s=none→σ s'=none→s≠s'→∀ b∈L' s,b∉L' s')
  (ho:∀ s,σ s=none→∀ b∈L' s,(∃ t,b∈L t∧∀ s,σ s≠some t)∨(w.heap.size≤b∧b<w'.heap.size))
  (hw:w.heap.size≤w'.heap.size) (hk:∀ b,b<w.heap.size→(∀ t,b∈L t→∃ s,σ s=some t)→w'.heap[b]? = w.heap[b]?)
  (uH:w'.os=w.os∧w'.tape=w.tape∧w'.output=w.output):Conf w0 U Φ0 w' Φ rv' E' L':=by
 have gh:∀ s t,σ s=some t→∀ b∈L t,w'.heap[b]? = w.heap[b]?:=by
  intro s t hs b hb
  refine hk b (h.own t b hb).1 fun t' yH=>?_
  have:t'=t:=Classical.byContradiction fun hI=>h.disj t' t hI b yH hb
  exact ⟨s,this▸hs⟩
 have hΦ:zDf w w' Φ Φ:=fun b hb=>⟨hb,hk b (h.frz b hb).1 fun t kZ=>absurd hb (h.own t b kZ).2.1⟩
 have vb:∀ g,σ g=none→∀ b∈L' g,∀ t,b∈L t→∀ s,σ s≠some t:=by
  intro g hg b hb t kZ s hs
  rcases ho g hg b hb with ⟨t',h1,h2⟩ | ⟨h1,h2⟩
  ·have:t'=t:=Classical.byContradiction fun hI=>h.disj t' t hI b h1 kZ
   exact h2 s (this▸hs)
  ·have:=(h.own t b kZ).1;omega
 refine ⟨?_,?_,?_,?_,?_,h.frz0,Nat.le_trans h.size hw,?_,uH.1.trans h.os,uH.2.1.trans h.tape,uH.2.2.trans h.output⟩
 ·intro s
  cases hs:σ s with
  | some t =>
   obtain ⟨h1,h2,h3⟩:=hE s t hs
   rw [h1,h2,h3]
   exact Rep.map hf.agg hΦ hA _ _ _ (gh s t hs) (h.rep t)
  | none=>exact hN s hs
 ·intro s
  cases hs:σ s with
  | some t=>rw [(hE s t hs).2.2];exact h.nodup t
  | none=>exact hd s hs
 ·intro s s' hI b hb yH
  cases hs:σ s with
  | some t =>
   rw [(hE s t hs).2.2] at hb
   cases yy:σ s' with
   | some t' =>
    rw [(hE s' t' yy).2.2] at yH
    have:t≠t':=fun e=>hI (hσ s s' t hs (e▸yy))
    exact h.disj t t' this b hb yH
   | none=>exact vb s' yy b yH t hb s hs
  | none =>
   cases yy:σ s' with
   | some t'=>rw [(hE s' t' yy).2.2] at yH;exact vb s hs b hb t' yH s' yy
   | none=>exact wO s s' hs yy hI b hb yH
 ·intro s b hb
  cases hs:σ s with
  | some t =>
   rw [(hE s t hs).2.2] at hb
   have:=h.own t b hb
   exact ⟨Nat.lt_of_lt_of_le this.1 hw,this.2⟩
  | none =>
   rcases ho s hs b hb with ⟨t,h1,_⟩ | ⟨h1,h2⟩
   ·have:=h.own t b h1
    exact ⟨Nat.lt_of_lt_of_le this.1 hw,this.2⟩
   ·exact ⟨h2,fun hp=>absurd (h.frz b hp).1 (by omega),.inr (Nat.le_trans h.size h1)⟩
 ·intro b hb
  have:=h.frz b hb
  exact ⟨Nat.lt_of_lt_of_le this.1 hw,this.2⟩
 ·intro b hb hu
  rw [hk b (Nat.lt_of_lt_of_le hb h.size) fun t kZ=>?_]
  ·exact h.kept b hb hu
  ·rcases (h.own t b kZ).2.2 with h1 | h1
   ·exact absurd h1 hu
   ·omega
theorem Conf.step (h:Conf w0 U Φ0 w Φ rv E L) (σ:Nat→Option Nat) (f:PV→PV) (g:Nat) (hf:Tame f)
  (hσ:∀ s s' t,σ s=some t→σ s'=some t→s=s')
  (hE:∀ s t,σ s=some t→E' s=(E t).mapW f∧rv' s=rv t∧L' s=L t)
  (hN:∀ s,σ s=none→Rep w' Φ (zA1 w' rv' E') (E' s) (rv' s) (L' s)∧(s≠g→L' s=[]))
  (hA:∀ a v,a.isWay=true→zA1 w rv E a v→Rep w' Φ (zA1 w' rv' E') (f a) v [])
  (hd:σ g=none→(L' g).Nodup) (ho:σ g=none→∀ b∈L' g,(∃ t,b∈L t∧∀ s,σ s≠some t)∨(w.heap.size≤b∧b<w'.heap.size))
  (hw:w.heap.size≤w'.heap.size) (hk:∀ b,b<w.heap.size→(∀ t,b∈L t→∃ s,σ s=some t)→w'.heap[b]? = w.heap[b]?)
  (uH:w'.os=w.os∧w'.tape=w.tape∧w'.output=w.output):Conf w0 U Φ0 w' Φ rv' E' L':=by
 refine h.step2 σ f hf hσ hE (fun s hs=>(hN s hs).1) hA (fun s hs=>?_) (fun s s' hs yy hI b hb yH=>?_) (fun s hs b hb=>?_) hw hk uH
 ·by_cases ya:s=g
  ·subst ya;exact hd hs
  ·rw [(hN s hs).2 ya];exact List.nodup_nil
 ·by_cases ya:s=g
  ·rw [(hN s' yy).2 (by rw [← ya];exact Ne.symm hI)] at yH;cases yH
  ·rw [(hN s hs).2 ya] at hb;cases hb
 ·by_cases ya:s=g
  ·subst ya;exact ho hs b hb
  ·rw [(hN s hs).2 ya] at hb;cases hb
theorem Conf.turn (h:Conf w0 U Φ0 w Φ rv E L) (σ:Nat→Option Nat) (f:PV→PV) (hf:Tame f)
  (hσ:∀ s s' t,σ s=some t→σ s'=some t→s=s')
  (hE:∀ s t,σ s=some t→E' s=(E t).mapW f∧rv' s=rv t∧L' s=L t)
  (hN:∀ s,σ s=none→E' s = .bad∧L' s=[])
  (hA:∀ a v,a.isWay=true→zA1 w rv E a v→Rep w Φ (zA1 w rv' E') (f a) v []):Conf w0 U Φ0 w Φ rv' E' L':=by
 refine h.step σ f 0 hf hσ hE (fun s hs=>?_) hA (fun hs=>?_) (fun hs=>?_) (Nat.le_refl _) (fun _ _ _=>rfl) ⟨rfl,rfl,rfl⟩
 ·obtain ⟨h1,h2⟩:=hN s hs
  rw [h1,h2];exact ⟨rfl,fun _=>rfl⟩
 ·rw [(hN _ hs).2];exact List.nodup_nil
 ·rw [(hN _ hs).2];simp
theorem zCb:Tame (fun x=>x):=⟨fun _=>rfl,fun p h=>by cases p<;>first | rfl | cases h⟩
theorem zDt {f:PV→PV} (h:∀ p,f p=p∨(p.isWay=true∧f p = .bad)):Tame f:=by
 refine ⟨fun p=>?_,fun p hp=>?_⟩
 ·rcases h p with h | ⟨h1,h2⟩
  ·rw [h]
  ·rw [h2];cases p<;>first | rfl | cases h1
 ·rcases h p with h | ⟨h1,h2⟩
  ·rw [h];cases p<;>first | rfl | cases hp
  ·rw [h2];rfl
theorem zGu (r:Nat) (pre:zAO) (p:PV):lose r pre p=p∨(p.isWay=true∧lose r pre p = .bad):=by
 cases p<;>first | exact .inl rfl | skip
 all_goals
  simp only [Eng.lose,PV.isWay,true_and]
  cases (Nat.beq _ r&&_)<;>simp
theorem zPH {r:Nat} {p:PV} {v:Value} (h:p.isWay=true) (hl:lose r [] p=p) (ha:zA1 w rv E p v):(zA3 p).1≠r:=by
 intro hr
 cases p<;>first | cases h | skip
 case log=>exact False.elim ha
 all_goals
  simp only [zA3] at hr;subst hr
  simp [Eng.lose] at hl
theorem Conf.take (h:Conf w0 U Φ0 w Φ rv E L) {s g:Nat} (hs:s<zAb) (hg:zAb≤g):Conf w0 U Φ0 w Φ (upd rv g (rv s)) (upd (upd E s .bad) g (E s)) (upd (upd L s []) g (L s)):=by
 have ya:s≠g:=by omega
 refine h.turn (fun t=>if t=g then some s else if t=s then none else some t) (fun x=>x) zCb ?_ ?_ ?_ ?_
 ·intro a b t ha hb
  split at ha<;>split at hb<;>simp_all<;>split at ha<;>simp_all
  all_goals (try split at hb)<;>simp_all
 ·intro a t ha
  split at ha
  ·rename_i e;cases ha;subst e;simp [zAj,zBb]
  ·rename_i e
   split at ha
   ·cases ha
   ·rename_i e2;cases ha;simp [zAg e,zAg e2,zBb]
 ·intro a ha
  split at ha
  ·cases ha
  ·rename_i e
   split at ha
   ·rename_i e2;subst e2;simp [zAg e,zAj]
   ·cases ha
 ·intro a v hw ha
  have hr:(zA3 a).1<zAb:=zCM ha
  refine zCN hw ?_
  by_cases jP:(zA3 a).1=s
  ·refine zLh ha ?_
   rw [zAg (by omega),jP,zAj];rfl
  ·refine zCz h zCb ha ?_ ?_ (fun _ _=>rfl)
   ·rw [zAg (by omega),zAg jP,zBb]
   ·rw [zAg (by omega)]
theorem Conf.lay (h:Conf w0 U Φ0 w Φ rv E L) {d g:Nat} (hd:d<zAb) (hg:zAb≤g):Conf w0 U Φ0 w Φ (upd rv d (rv g)) (upd (upd (fun s=>(E s).mapW (lose d [])) d ((E g).mapW (lose d []))) g .bad) (upd (upd L d (L g)) g []):=by
 have uf:d≠g:=by omega
 refine h.turn (fun t=>if t=g then none else if t=d then some g else some t) (lose d []) (zDt (zGu d [])) ?_ ?_ ?_ ?_
 ·intro a b t ha hb
  split at ha<;>split at hb<;>simp_all<;>split at ha<;>simp_all
  all_goals (try split at hb)<;>simp_all
 ·intro a t ha
  split at ha
  ·cases ha
  ·rename_i e
   split at ha
   ·rename_i e2;cases ha;subst e2;simp [zAg e,zAj]
   ·rename_i e2;cases ha;simp [zAg e,zAg e2]
 ·intro a ha
  split at ha
  ·rename_i e;subst e;simp [zAj]
  ·split at ha<;>cases ha
 ·intro a v hw ha
  have hr:(zA3 a).1<zAb:=zCM ha
  rcases zGu d [] a with hl | ⟨_,hl⟩
  ·rw [hl]
   have hI:=zPH hw hl ha
   refine zCN hw (zCz h (zDt (zGu d [])) ha ?_ ?_ (fun _ _=>rfl))
   ·rw [zAg (by omega),zAg hI]
   ·rw [zAg hI]
  ·rw [hl];rfl
theorem Conf.lose (h:Conf w0 U Φ0 w Φ rv E L) {f:PV→PV} (hf:∀ p,f p=p∨(p.isWay=true∧f p = .bad)):Conf w0 U Φ0 w Φ rv (fun s=>(E s).mapW f) L:=by
 refine h.turn some f (zDt hf) (fun a b t ha hb=>by cases ha;cases hb;rfl) (fun a t ha=>by cases ha;exact ⟨rfl,rfl,rfl⟩) (fun a ha=>by cases ha) fun a v hw ha=>?_
 rcases hf a with hl | ⟨_,hl⟩
 ·rw [hl];exact zCN hw (zCz h (zDt hf) ha rfl rfl (fun _ _=>rfl))
 ·rw [hl];rfl
theorem Conf.drop (h:Conf w0 U Φ0 w Φ rv E L) (D:Nat→Bool):Conf w0 U Φ0 w Φ rv (fun s=>if D s then .bad else E s) (fun s=>if D s then [] else L s):=by
 refine h.turn (fun s=>if D s then none else some s) (fun x=>x) zCb ?_ ?_ ?_ ?_
 ·intro a b t ha hb;split at ha<;>split at hb<;>simp_all
 ·intro a t ha;split at ha
  ·cases ha
  ·rename_i e;cases ha;simp [e,zBb]
 ·intro a ha;split at ha
  ·rename_i e;simp [e]
  ·cases ha
 ·intro a v hw ha
  refine zCN hw ?_
  by_cases hd:D (zA3 a).1=true
  ·exact zLh ha (by simp [hd];rfl)
  ·exact zCz h zCb ha (by simp [hd,zBb]) rfl (fun _ _=>rfl)
theorem Conf.hold (h:Conf w0 U Φ0 w Φ rv E L) {g:Nat} (hg:zAb≤g) {p:PV} {v:Value} (hr:Rep w Φ (zA1 w rv E) p v []) :
  Conf w0 U Φ0 w Φ (upd rv g v) (upd E g p) (upd L g []):=by
 have hA:∀ a u,a.isWay=true→zA1 w rv E a u→zA1 w (upd rv g v) (upd E g p) a u:=by
  intro a u _ ha
  have:=zCM ha
  exact zCz h zCb ha (by rw [zAg (by omega),zBb]) (by rw [zAg (by omega)]) (fun _ _=>rfl)
 refine h.step (fun s=>if s=g then none else some s) (fun x=>x) g zCb ?_ ?_ ?_ (fun a u hw ha=>zCN hw (hA a u hw ha)) (fun _=>?_) (fun _=>?_) (Nat.le_refl _) (fun _ _ _=>rfl) ⟨rfl,rfl,rfl⟩
 ·intro a b t ha hb;split at ha<;>split at hb<;>simp_all
 ·intro a t ha;split at ha
  ·cases ha
  ·rename_i e;cases ha;simp [zAg e,zBb]
 ·intro a ha;split at ha
  ·rename_i e;subst e
   rw [zAj,zAj,zAj]
   exact ⟨hr.mono zDf.refl hA (by simp),fun h=>absurd rfl h⟩
  ·cases ha
 ·rw [zAj];exact List.nodup_nil
 ·rw [zAj];simp
theorem Conf.make (h:Conf w0 U Φ0 w Φ rv E L) {w':World} (G:Nat→Bool) (hG:∀ s,G s=true→zAb≤s) {g:Nat} (hg:zAb≤g) {p:PV} {v:Value} {Lp:List Nat}
  (hr:∀ A:Al,(∀ a u,a.isWay=true→zA1 w rv E a u→A a u)→Rep w' Φ A p v Lp) (hd:Lp.Nodup)
  (ho:∀ b∈Lp,(∃ t,b∈L t∧G t=true)∨(w.heap.size≤b∧b<w'.heap.size))
  (hw:w.heap.size≤w'.heap.size) (hk:∀ b,b<w.heap.size→(∀ t,b∈L t→G t=false)→w'.heap[b]? = w.heap[b]?)
  (uH:w'.os=w.os∧w'.tape=w.tape∧w'.output=w.output) :
  Conf w0 U Φ0 w' Φ (upd rv g v) (upd (fun s=>if G s then .bad else E s) g p) (upd (fun s=>if G s then [] else L s) g Lp):=by
 have hA:∀ a u,a.isWay=true→zA1 w rv E a u→zA1 w' (upd rv g v) (upd (fun s=>if G s then .bad else E s) g p) a u:=by
  intro a u _ ha
  have yF:=zCM ha
  have hI:(zA3 a).1≠g:=by omega
  have hGn:G (zA3 a).1=false:=by
   cases hb:G (zA3 a).1 with
   | false=>rfl
   | true=>have:=hG _ hb;omega
  refine zCz h zCb ha (by rw [zAg hI];simp [hGn,zBb]) (by rw [zAg hI]) fun b hb=>hk b (h.own _ b hb).1 fun t ht=>?_
  have:t=(zA3 a).1:=Classical.byContradiction fun hn=>h.disj t _ hn b ht hb
  rw [this];exact hGn
 refine h.step (fun s=>if s=g then none else if G s then none else some s) (fun x=>x) g zCb ?_ ?_ ?_ (fun a u hw ha=>zCN hw (hA a u hw ha)) (fun _=>?_) (fun _=>?_) hw ?_ uH
 ·intro a b t ha hb
  split at ha<;>split at hb<;>simp_all
 ·intro a t ha
  split at ha
  ·cases ha
  ·rename_i e
   split at ha
   ·cases ha
   ·rename_i e2;cases ha;simp [zAg e,zBb,e2]
 ·intro a ha
  split at ha
  ·rename_i e;subst e
   rw [zAj,zAj,zAj]
   exact ⟨hr _ hA,fun h=>absurd rfl h⟩
  ·rename_i e
   split at ha
   ·rename_i e2
    rw [zAg e,zAg e,zAg e]
    exact ⟨by simp [e2,Rep],fun _=>by simp [e2]⟩
   ·cases ha
 ·rw [zAj];exact hd
 ·rw [zAj]
  intro b hb
  rcases ho b hb with ⟨t,h1,h2⟩ | h1
  ·refine .inl ⟨t,h1,fun s hs=>?_⟩
   split at hs
   ·cases hs
   ·split at hs
    ·cases hs
    ·rename_i e2;cases hs;exact e2 h2
  ·exact .inr h1
 ·intro b hb hc
  refine hk b hb fun t ht=>?_
  obtain ⟨s,hs⟩:=hc t ht
  split at hs
  ·cases hs
  ·split at hs
   ·cases hs
   ·rename_i e2;cases hs;simpa using e2
theorem zB9.trans {p q r:PV} (h1:zB9 p q) (h2:zB9 q r):zB9 p r:=by
 cases p<;>cases q<;>simp only [zB9] at h1<;>cases r<;>simp_all [zB9]
theorem zMD {A A':Al} (hA:∀ a v,a.isWay=true→A a v→A' a v):∀ {pre:zAO} {p:PV},∀ a v,a.isWay=true→zIp A p pre a v→zIp A' p pre a v
 | [],p,a,v,hw,h=>hA a v hw h
 | (i,c)::rest,p,a,v,hw,h=>by
  simp only [zIp] at h ⊢
  cases hc:Eng.child p i c with
  | none=>rw [hc] at h;exact h.elim
  | some q =>
   rw [hc] at h
   exact zMD (zKA hA) a v hw h
def stays (f:PV→PV) (A:Al):Al:=fun a v=>A a v∧f a=a
theorem Conf.stays (h:Conf w0 U Φ0 w Φ rv E L) {f:PV→PV} (hf:∀ p,f p=p∨(p.isWay=true∧f p = .bad)) (s:Nat):Rep w Φ (stays f (zA1 w rv E)) ((E s).mapW f) (rv s) (L s):=by
 refine Rep.map (zDt hf).agg zDf.refl (fun a v hw ha=>?_) _ _ _ (fun _ _=>rfl) (h.rep s)
 rcases hf a with hl | ⟨_,hl⟩
 ·rw [hl];exact zCN hw ⟨ha,hl⟩
 ·rw [hl];rfl
theorem Conf.mod (h:Conf w0 U Φ0 w Φ rv E L) {r:Nat} (hr:r<zAb) {f:PV→PV} (hf:∀ p,f p=p∨(p.isWay=true∧f p = .bad)) {pre:zAO} {q:PV}
  (jR:((E r).mapW f).unlock=(E r).mapW f) (hn:zAz ((E r).mapW f) pre=some q) :
  ∃ nv Li,zAN w (rv r) ((E r).mapW f) pre=some (nv,q)∧Rep w Φ (zIp (Eng.stays f (zA1 w rv E)) ((E r).mapW f) pre) q nv Li∧Li.Nodup∧(∀ b∈Li,b∈L r) ∧
   ∀ (G:Nat→Bool) (w':World) (q' root':PV) (Li':List Nat),(∀ s,G s=true→zAb≤s)→(pre≠[]→q'.isAgg=q.isAgg)→zAv (fun _=>some q') ((E r).mapW f) pre=some root'→root'.unlock=root' →
    (∀ A:Al,(∀ a u,a.isWay=true→Eng.stays f (zA1 w rv E) a u→A a u)→Rep w' Φ (zIp A ((E r).mapW f) pre) q' nv Li')→Li'.Nodup →
    (∀ b∈Li',b∈Li∨(∃ t,b∈L t∧G t=true)∨(w.heap.size≤b∧b<w'.heap.size))→w.heap.size≤w'.heap.size →
    (∀ b,b<w.heap.size→b∉Li→(∀ t,b∈L t→G t=false)→w'.heap[b]? = w.heap[b]?) →
    (∀ rest nv2 np2,zAN w' nv q' rest=some (nv2,np2)→np2.heavy0=true→(∀ a,a.isWay=true→zA3 a=(r,pre++rest)→f a≠a)∨∃ np0,zAN w nv q rest=some (nv2,np0)∧zB9 np0 np2) →
    (w'.os=w.os∧w'.tape=w.tape∧w'.output=w.output) →
    ∃ L',(∀ s,s≠r→L' s=if G s then [] else L s)∧Conf w0 U Φ0 w' Φ rv (fun s=>if s=r then root' else if G s then .bad else (E s).mapW f) L':=by
 have hs:=h.stays hf r
 obtain ⟨nv,La,Li,Lb,vC,hL,hX,vc,uO⟩:=Rep.zip pre hs hn
 have yW:=h.nodup r
 rw [hL] at yW
 have hnd1:∀ b∈La++Lb,b∉Li:=by
  intro b hb uP
  simp only [List.nodup_append] at yW
  rcases List.mem_append.1 hb with hb | hb
  ·exact yW.1.2.2 b hb b uP rfl
  ·exact yW.2.2 b (by simp [uP]) b hb rfl
 refine ⟨nv,Li,vC,hX,?_,fun b hb=>by rw [hL];simp [hb],?_⟩
 ·simp only [List.nodup_append] at yW;exact yW.1.2.1
 intro G w' q' root' Li' hG yq hm yG hR hd ho hw hk ug uH
 have hkL:∀ t,G t=false→∀ b∈L t,b∉Li→w'.heap[b]? = w.heap[b]?:=by
  intro t ht b hb uP
  refine hk b (h.own t b hb).1 uP fun t' gg=>?_
  have:t'=t:=Classical.byContradiction fun hI=>h.disj t' t hI b gg hb
  rw [this];exact ht
 have hGr:G r=false:=by
  cases hb:G r with
  | false=>rfl
  | true=>have:=hG _ hb;omega
 have hbLL:∀ b∈La++Lb,w'.heap[b]? = w.heap[b]?:=by
  intro b hb
  exact hkL r hGr b (by rw [hL];simp at hb ⊢;rcases hb with h | h<;>simp [h]) (hnd1 b hb)
 have hLiL:∀ t,t≠r→∀ b∈L t,b∉Li:=by
  intro t hI b hb uP
  exact h.disj t r hI b hb (by rw [hL];simp [uP])
 have hA : ∀ a u,a.isWay=true→zA1 w rv E a u→f a=a→zA1 w' rv (fun s=>if s=r then root' else if G s then .bad else (E s).mapW f) a u:=by
  intro a u uh ha hfa
  have yF:=zCM ha
  by_cases uQ:(zA3 a).1=r
  ·refine ha.mono fun nv2 np2 j7 hh=>?_
   simp only [uQ,if_true] at j7 ⊢
   rw [yG] at j7
   have back:∀ np0,zAN w (rv r) ((E r).mapW f) (zA3 a).2=some (nv2,np0)→zB9 np0 np2→∃ np0,zAN w (rv r) (E r).unlock (zA3 a).2=some (nv2,np0)∧zB9 np0 np2:=by
    intro np0 h1 h2
    rw [← jR,zDo (zDt hf)] at h1
    obtain ⟨np1,h3,h4⟩:=zCK (zDt hf) h1 (zDD h2)
    exact ⟨np1,h3,h4.trans h2⟩
   rcases uO w' q' root' hbLL yq hm _ nv2 np2 j7 hh with ⟨rest,h1,h2⟩ | ⟨np0,h1,h2⟩
   ·rcases ug rest nv2 np2 h2 hh with h3 | ⟨np0,h3,h4⟩
    ·exact absurd hfa (h3 a uh (Prod.ext uQ h1))
    ·refine back np0 ?_ h4
     rw [h1,zC4,vC];exact h3
   ·exact back np0 h1 h2
  ·have hGa:G (zA3 a).1=false:=by
    cases hb:G (zA3 a).1 with
    | false=>rfl
    | true=>have:=hG _ hb;omega
   exact zCz h (zDt hf) ha (by simp [uQ,hGa]) rfl fun b hb=>hkL _ hGa b hb (hLiL _ uQ b hb)
 have hA':∀ a u,a.isWay=true→zA1 w rv E a u→Rep w' Φ (zA1 w' rv (fun s=>if s=r then root' else if G s then .bad else (E s).mapW f)) (f a) u []:=by
  intro a u uh ha
  rcases hf a with hl | ⟨_,hl⟩
  ·rw [hl];exact zCN uh (hA a u uh ha hl)
  ·rw [hl];rfl
 have hΦ:zDf w w' Φ Φ:=fun b hb=>⟨hb,hk b (h.frz b hb).1 (fun uP=>(h.own r b (by rw [hL];simp [uP])).2.1 hb) fun t kZ=>absurd hb (h.own t b kZ).2.1⟩
 refine ⟨fun s=>if s=r then La++Li'++Lb else if G s then [] else L s,fun s yY=>by simp [yY],?_⟩
 refine h.step (fun s=>if s=r then none else if G s then none else some s) f r (zDt hf) ?_ ?_ ?_ hA' (fun _=>?_) (fun _=>?_) hw ?_ uH
 ·intro a b t ha hb
  split at ha<;>split at hb<;>simp_all
 ·intro a t ha
  split at ha
  ·cases ha
  ·rename_i e
   split at ha
   ·cases ha
   ·rename_i e2;cases ha;simp [e,e2]
 ·intro a ha
  by_cases e:a=r
  ·subst e
   simp only [if_true]
   exact ⟨vc w' Φ _ q' Li' root' (fun a u uh ha=>hA a u uh ha.1 ha.2) hΦ hbLL yq (hR _ fun a u uh ha=>hA a u uh ha.1 ha.2) hm,fun h=>absurd rfl h⟩
  ·simp only [e,if_false] at ha ⊢
   split at ha
   ·rename_i e2;exact ⟨by simp [e2,Rep],fun _=>by simp [e2]⟩
   ·cases ha
 ·simp only [if_true]
  simp only [List.nodup_append] at yW ⊢
  have hx:∀ b∈Li',b∈La++Lb→False:=by
   intro b hb j4
   have wP:b∈L r:=by rw [hL];simp at j4 ⊢;rcases j4 with h | h<;>simp [h]
   rcases ho b hb with h1 | ⟨t,h1,h2⟩ | h1
   ·exact hnd1 b j4 h1
   ·have:t≠r:=fun e=>by rw [e,hGr] at h2;cases h2
    exact h.disj t r this b h1 wP
   ·have:=(h.own r b wP).1;omega
  refine ⟨⟨yW.1.1,hd,fun a ha b hb e=>hx b hb (by subst e;simp [ha])⟩,yW.2.1,fun a ha b hb e=>?_⟩
  subst e
  rcases List.mem_append.1 ha with ha | ha
  ·exact yW.2.2 a (by simp [ha]) a hb rfl
  ·exact hx a ha (by simp [hb])
 ·simp only [if_true]
  intro b hb
  have yX:∀ t,t=r∨G t=true→∀ s,(if s=r then none else if G s then none else some s)≠some t:=by
   intro t ht s hs
   split at hs
   ·cases hs
   ·rename_i e
    split at hs
    ·cases hs
    ·rename_i e2;cases hs
     rcases ht with h | h
     ·exact e h
     ·exact e2 h
  rcases List.mem_append.1 hb with hb | hb
  ·rcases List.mem_append.1 hb with hb | hb
   ·exact .inl ⟨r,by rw [hL];simp [hb],yX r (.inl rfl)⟩
   ·rcases ho b hb with h1 | ⟨t,h1,h2⟩ | h1
    ·exact .inl ⟨r,by rw [hL];simp [h1],yX r (.inl rfl)⟩
    ·exact .inl ⟨t,h1,yX t (.inr h2)⟩
    ·exact .inr h1
  ·exact .inl ⟨r,by rw [hL];simp [hb],yX r (.inl rfl)⟩
 ·intro b hb hc
  have kE:b∉L r:=by
   intro wP
   obtain ⟨s,hs⟩:=hc r wP
   split at hs
   ·cases hs
   ·rename_i e
    split at hs
    ·cases hs
    ·cases hs;exact e rfl
  refine hk b hb (fun uP=>kE (by rw [hL];simp [uP])) fun t ht=>?_
  obtain ⟨s,hs⟩:=hc t ht
  split at hs
  ·cases hs
  ·split at hs
   ·cases hs
   ·rename_i e2;cases hs;simpa using e2
theorem Conf.takeNode (h:Conf w0 U Φ0 w Φ rv E L) {r g:Nat} (hr:r<zAb) (hg:zAb≤g) {pre:zAO} {q root':PV} (jR:(E r).unlock=E r) (hn:zAz (E r) pre=some q) (yq:q.isAgg=false)
  (hm:zAv (fun _=>some .bad) (E r) pre=some root') (yG:root'.unlock=root') :
  ∃ nv Li,zAN w (rv r) (E r) pre=some (nv,q)∧Rep w Φ (zA1 w rv E) q nv Li∧Li.Nodup∧(∀ b∈Li,b∈L r)∧∀ (p':PV) (v':Value) (Lg:List Nat),Rep w Φ (zA1 w rv E) p' v' Lg→Lg.Nodup→(∀ b∈Lg,b∈Li∨b∈L g) →
   ∃ L',Conf w0 U Φ0 w Φ (upd rv g v') (upd (upd E r root') g p') L'∧∀ s,s≠r→s≠g→L' s=L s:=by
 have ju:r≠g:=by omega
 obtain ⟨nv,La,Li,Lb,vC,hL,hX,vc,uO⟩:=Rep.zip pre (h.rep r) hn
 have yW:=h.nodup r
 rw [hL] at yW
 simp only [List.nodup_append] at yW
 have y7:∀ b,b∈La++Lb→b∈L r:=fun b hb=>by rw [hL];simp at hb ⊢;rcases hb with h | h<;>simp [h]
 have qF:∀ b∈Li,b∈L r:=fun b hb=>by rw [hL];simp [hb]
 have vD:∀ b∈Li,b∉La++Lb:=by
  intro b hb j4
  rcases List.mem_append.1 j4 with h2 | h2
  ·exact yW.1.2.2 b h2 b hb rfl
  ·exact yW.2.2 b (by simp [hb]) b h2 rfl
 refine ⟨nv,Li,vC,hX.mono zDf.refl (fun _ _ _ h=>zEr h) (fun _ _=>rfl),yW.1.2.1,qF,fun p' v' Lg jf hLg hLgm=>?_⟩
 have qG:∀ b∈Lg,b∉La++Lb:=by
  intro b hb j4
  rcases hLgm b hb with h1 | h1
  ·exact vD b h1 j4
  ·exact h.disj r g ju b (y7 b j4) h1
 have hA:∀ a u,a.isWay=true→zA1 w rv E a u→zA1 w (upd rv g v') (upd (upd E r root') g p') a u:=by
  intro a u uh ha
  have yF:=zCM ha
  by_cases uQ:(zA3 a).1=r
  ·refine ha.mono fun nv2 np2 j7 hh=>?_
   rw [uQ] at j7 ⊢
   rw [zAg ju,zAg ju,zAj,yG] at j7
   rcases uO w .bad root' (fun _ _=>rfl) (fun _=>yq.symm) hm _ nv2 np2 j7 hh with ⟨rest,h1,h2⟩ | ⟨np0,h1,h2⟩
   ·cases rest with
    | nil=>simp only [zAN,Option.some.injEq,Prod.mk.injEq] at h2;rw [← h2.2] at hh;cases hh
    | cons x rest=>obtain ⟨i,c⟩:=x;rw [zA2] at h2;simp [Eng.child,zAZ] at h2
   ·rw [jR];exact ⟨np0,h1,h2⟩
  ·exact zCz h zCb ha (by rw [zAg (by omega),zAg uQ,zBb]) (by rw [zAg (by omega)]) (fun _ _=>rfl)
 refine ⟨upd (upd L r (La++Lb)) g Lg,?_,fun s h1 h2=>by rw [zAg h2,zAg h1]⟩
 refine h.step2 (fun s=>if s=r then none else if s=g then none else some s) (fun x=>x) zCb ?_ ?_ ?_ (fun a u uh ha=>zCN uh (hA a u uh ha)) ?_ ?_ ?_ (Nat.le_refl _) (fun _ _ _=>rfl) ⟨rfl,rfl,rfl⟩
 ·intro a b t ha hb
  split at ha<;>split at hb<;>simp_all
 ·intro a t ha
  split at ha
  ·cases ha
  ·rename_i e1
   split at ha
   ·cases ha
   ·rename_i e2;cases ha;simp [zAg e1,zAg e2,zBb]
 ·intro a ha
  by_cases e1:a=r
  ·subst e1
   rw [zAg ju,zAg ju,zAg ju,zAj,zAj]
   have:=vc w Φ (zA1 w (upd rv g v') (upd (upd E a root') g p')) .bad [] root' hA zDf.refl (fun _ _=>rfl) (fun _=>yq.symm) rfl hm
   simpa using this
  ·have e2:a=g:=by
    rw [if_neg e1] at ha
    by_cases e2:a=g
    ·exact e2
    ·rw [if_neg e2] at ha;cases ha
   subst e2
   rw [zAj,zAj,zAj]
   exact jf.mono zDf.refl (fun a u hw h=>hA a u hw h) (fun _ _=>rfl)
 ·intro a ha
  by_cases e1:a=r
  ·subst e1
   rw [zAg ju,zAj,List.nodup_append]
   exact ⟨yW.1.1,yW.2.1,fun x hx y hy e=>yW.2.2 x (by simp [hx]) y hy e⟩
  ·rw [if_neg e1] at ha
   by_cases e2:a=g
   ·subst e2;rw [zAj];exact hLg
   ·rw [if_neg e2] at ha;cases ha
 ·intro s s' hs yy hI b hb yH
  have uR:s=r∨s=g:=by by_cases e1:s=r;exact .inl e1;rw [if_neg e1] at hs;by_cases e2:s=g;exact .inr e2;rw [if_neg e2] at hs;cases hs
  have hs2':s'=r∨s'=g:=by by_cases e1:s'=r;exact .inl e1;rw [if_neg e1] at yy;by_cases e2:s'=g;exact .inr e2;rw [if_neg e2] at yy;cases yy
  rcases uR with rfl | rfl<;>rcases hs2' with rfl | rfl
  ·exact hI rfl
  ·rw [zAg ju,zAj] at hb;rw [zAj] at yH;exact qG b yH hb
  ·rw [zAj] at hb;rw [zAg ju,zAj] at yH;exact qG b hb yH
  ·exact hI rfl
 ·intro s hs b hb
  have uR:s=r∨s=g:=by by_cases e1:s=r;exact .inl e1;rw [if_neg e1] at hs;by_cases e2:s=g;exact .inr e2;rw [if_neg e2] at hs;cases hs
  have kE:∀ t,t=r∨t=g→∀ x,(if x=r then none else if x=g then none else some x)≠some t:=by
   intro t ht x hx
   split at hx
   ·cases hx
   ·rename_i e1
    split at hx
    ·cases hx
    ·rename_i e2;cases hx;rcases ht with h | h<;>contradiction
  rcases uR with rfl | rfl
  ·rw [zAg ju,zAj] at hb;exact .inl ⟨s,y7 b hb,kE s (.inl rfl)⟩
  ·rw [zAj] at hb
   rcases hLgm b hb with h1 | h1
   ·exact .inl ⟨r,qF b h1,kE r (.inl rfl)⟩
   ·exact .inl ⟨s,h1,kE s (.inr rfl)⟩
end
end
end Go.Eng
namespace Go.Eng
open Go
theorem zBg:∀ ps:List PV,(zAD ps).length=ps.length
 | []=>rfl
 | p::ps=>by simp [zAD,zBg ps]
theorem zIK:∀ (ps:List PV) (i:Nat),(zAD ps)[i]? = (ps[i]?).map zAP
 | [],i=>by simp [zAD]
 | p::ps,0=>by simp [zAD]
 | p::ps,i+1=>by simp only [zAD,List.getElem?_cons_succ];exact zIK ps i
theorem zCt:∀ ps:List PV,zAD ps=ps.map zAP
 | []=>rfl
 | p::ps=>by simp [zAD,zCt ps]
theorem zCY (p:PV):(zAP p).isAgg=p.isAgg:=by cases p<;>rfl
theorem zL4 (p:PV):(zAP p).cells=zAD p.cells:=by cases p<;>rfl
theorem zCZ (p:PV):(zAP p).cells.length=p.cells.length:=by rw [zL4,zBg]
theorem zGH (ps:List PV):(zAD ps).map PV.isAgg=ps.map PV.isAgg:=by
 rw [zCt,List.map_map];exact List.map_congr_left fun p _=>zCY p
section
variable {w:World} {Φ Φ':Nat→Prop}
mutual
theorem zDY {A:Al} (hΦ:∀ b,Φ b→Φ' b):∀ (p:PV) (v:Value) (L:List Nat),(∀ b∈L,Φ' b)→Rep w Φ A p v L→Rep w Φ' A (zAP p) v []
 | .own sz xs,v,L,hL,h=>by
  obtain ⟨h1,h2,h3⟩ | ⟨a,n,c,us,L',rfl,h1,h2,h3,h4,h5,h6,h7,h8,h9⟩:=h
  ·subst h1;exact ⟨rfl,.inl ⟨rfl,none,0,h3,fun _=>rfl⟩⟩
  ·refine ⟨rfl,.inr ⟨a,n,c,us,sz,by rw [zBg];exact h1,h2,by rw [zBg];exact h3,hL _ (by simp),h4.any,?_,⟨h7.1,by rw [zGH];exact h7.2⟩,by rw [zBg];exact h8,?_⟩⟩
   ·intro x hx
    rw [zCt] at hx
    obtain ⟨y,hy,rfl⟩:=List.mem_map.1 hx
    rw [zCZ];exact h6 y hy
   ·exact zDq hΦ xs us L' (fun b hb=>hL b (by simp [hb])) h9
 | .box q,v,L,hL,h=>by
  obtain ⟨a,c,u,L',rfl,h1,h2,h4,h5,h6,h7⟩:=h
  exact ⟨rfl,a,c,u,h1,h2,hL _ (by simp),h4.any,by rw [zCZ];exact h5,by rw [zCZ,zCY];exact h6,zDY hΦ q u L' (fun b hb=>hL b (by simp [hb])) h7⟩
 | .omap es,v,L,hL,h=>by
  obtain ⟨b,ents,rfl,h1,h3,h4⟩:=h
  exact ⟨rfl,b,ents,h1,hL _ (by simp),h3,zDN.same (fun b hb=>⟨hΦ b hb,rfl⟩) es _ _ h4⟩
 | .agg cs,v,L,hL,h=>by
  obtain ⟨vs,rfl,h⟩:=h
  exact ⟨vs,rfl,zDq hΦ cs _ L hL h⟩
 | .tup _,_,_,_,_=>rfl
 | .lock _,_,_,_,_=>rfl
 | .bad,_,_,_,_=>rfl
 | .und,_,_,_,h=>⟨h.1,rfl⟩
 | .int ..,_,_,_,h=>⟨h.1,rfl⟩
 | .bool _,_,_,_,h=>⟨h.1,rfl⟩
 | .nilp,_,_,_,h=>⟨h.1,rfl⟩
 | .nilf,_,_,_,h=>⟨h.1,rfl⟩
 | .nilm,_,_,_,h=>⟨h.1,rfl⟩
 | .nn,_,_,_,h=>⟨rfl,h.2⟩
 | .nils _,_,_,_,h=>⟨h.1,rfl⟩
 | .sl xs,v,L,_,h=>by have h0:=h.1;subst h0;exact h.mono (fun b hb=>⟨hΦ b hb,rfl⟩) (fun _ _ _ h=>h) (fun _ _=>rfl)
 | .ref q,v,L,_,h=>by have h0:=h.1;subst h0;exact h.mono (fun b hb=>⟨hΦ b hb,rfl⟩) (fun _ _ _ h=>h) (fun _ _=>rfl)
 | .map es,v,L,_,h=>by have h0:=h.1;subst h0;exact h.mono (fun b hb=>⟨hΦ b hb,rfl⟩) (fun _ _ _ h=>h) (fun _ _=>rfl)
 | .func _ _ _,v,L,_,h=>by have h0:=h.1;subst h0;exact h.mono (fun b hb=>⟨hΦ b hb,rfl⟩) (fun _ _ _ h=>h) (fun _ _=>rfl)
 | .addr ..,_,_,_,h=>⟨rfl,h.2⟩
 | .bor ..,_,_,_,h=>⟨rfl,h.2⟩
 | .bsl ..,_,_,_,h=>⟨rfl,h.2⟩
 | .bmap ..,_,_,_,h=>⟨rfl,h.2⟩
 | .yld _,_,_,_,h=>⟨rfl,h.2⟩
 | .log ..,_,_,_,h=>⟨rfl,h.2⟩
theorem zDq {A:Al} (hΦ:∀ b,Φ b→Φ' b):∀ (ps:List PV) (vs:List Value) (L:List Nat),(∀ b∈L,Φ' b)→zAX w Φ A ps vs L→zAX w Φ' A (zAD ps) vs []
 | [],_,_,_,h=>⟨h.1,rfl⟩
 | p::ps,vs,L,hL,h=>by
  obtain ⟨v,vs',L1,L2,rfl,rfl,h1,h2⟩:=h
  exact ⟨v,vs',[],[],rfl,rfl,zDY hΦ p v L1 (fun b hb=>hL b (by simp [hb])) h1,zDq hΦ ps vs' L2 (fun b hb=>hL b (by simp [hb])) h2⟩
end
theorem zHP:∀ {pre:zAO} {p:PV} {v nv:Value} {np:PV},zAN w v (zAP p) pre=some (nv,np)→np.heavy0=false
 | [],p,v,nv,np,h=>by
  simp only [zAN,Option.some.injEq,Prod.mk.injEq] at h
  obtain ⟨_,rfl⟩:=h
  cases p<;>rfl
 | (i, c)::rest,p,v,nv,np,h=>by
  rw [zA2] at h
  cases hc:Eng.child (zAP p) i c with
  | none=>rw [hc] at h;cases h
  | some q =>
   rw [hc] at h;simp only [Option.bind_some] at h
   cases hk:kid w v (zAP p) i c with
   | none=>rw [hk] at h;cases h
   | some u =>
    rw [hk] at h;simp only [Option.bind_some] at h
    cases p<;>first | (simp [Eng.child,zAZ,zAP] at hc;done) | skip
    rename_i cs
    cases i with
    | succ i=>simp [Eng.child,zAZ,zAP] at hc
    | zero =>
     simp only [Eng.child,zAZ,zAP,Option.bind_some,List.getElem?_cons_zero,PV.cells] at hc
     rw [zIK] at hc
     cases hq:cs[c]? with
     | none=>rw [hq] at hc;cases hc
     | some q0=>rw [hq] at hc;simp only [Option.map_some,Option.some.injEq] at hc;subst hc;exact zHP h
end
theorem zGC {c:Array Value} {o n:Nat} {l:List Value} (hl:l.length=n) (h:∀ k u,l[k]? = some u→c[o+k]? = some u):seg c o n=l:=by
 apply List.ext_getElem?
 intro k
 simp only [seg,List.getElem?_take,List.getElem?_drop]
 by_cases hk:k<n
 ·rw [if_pos hk]
  have : ∃ u, l[k]? = some u := ⟨l[k]'(by omega), by simp [hl, hk]⟩
  obtain ⟨u,hu⟩:=this
  rw [hu,Array.getElem?_toList];exact h k u hu
 ·rw [if_neg hk,List.getElem?_eq_none (by omega)]
section
variable {w:World} {Φ:Nat→Prop}
theorem zKZ {A:Al} {np:PV} {nv:Value} {Li:List Nat} (h:Rep w Φ A np nv Li) {xs:List PV} (hx:zA6 np=some xs) {i:Nat} {x:PV} (hi:xs[i]? = some x) :
  ∃ ux row ad Lx,ad.block∈Li∧ad.spot=none∧zEK w ad.block row∧(∀ b∈Lx,b∈Li)∧(∀ c,zA4 nv np i c=some (zAr ad c)) ∧
   (∀ c n,c+n≤x.cells.length→seg row (ad.off+c) n=(ux.cells.toList.drop c).take n)∧zCa ux=x.isAgg∧ux.cells.size=x.cells.length∧Rep w Φ (zGk A np) x ux Lx:=by
 cases np<;>simp only [zA6] at hx<;>try cases hx
 case own sz =>
  obtain ⟨h1,h2,h3⟩ | ⟨a,n,r,us,L',rfl,h1,h2,h3,h4,h5,h6,⟨h7,uG⟩,h8,h9⟩:=h
  ·subst h1;simp at hi
  ·obtain ⟨ux,La,Lx,Lb,hu,rfl,hr,_,_⟩:=h9.split hi
   have hg:zCa ux=x.isAgg:=by
    have h1:(us.map zCa)[i]? = some (zCa ux):=by simp [hu]
    have h2:(xs.map PV.isAgg)[i]? = some x.isAgg:=by simp [hi]
    rw [uG] at h1;rw [h1] at h2;simpa using h2
   have yE:ux.cells.size=x.cells.length:=by rw [h7 ux (List.mem_of_getElem? hu),h6 x (List.mem_of_getElem? hi)]
   subst h1
   refine ⟨ux,r,zAr a (i*sz),Lx,by simp [zAr],rfl,h4,fun b hb=>by simp [hb],fun c=>by simp [zA4,zAr,Nat.add_assoc],?_,hg,yE,hr⟩
   intro c m hcm
   refine zGC (by simp;omega) fun k u hk=>?_
   simp only [List.getElem?_take,List.getElem?_drop] at hk
   split at hk
   ·have hf:=zDW h7 hu hk
    rw [← h8] at hf
    have:=zDd hf
    simp only [zAr]
    rw [show a.off+i*sz+c+k=a.off+(i*sz+(c+k)) by omega];exact this
   ·cases hk
 case box q0 =>
  obtain ⟨a,r,u0,L',rfl,h1,h2,h4,h5,⟨h6,uc⟩,h7⟩:=h
  have jd:i=0:=by
   cases i with
   | zero=>rfl
   | succ i=>simp at hi
  subst jd;simp at hi;subst hi
  subst h1
  refine ⟨u0,r,a,L',by simp,h2,h4,fun b hb=>by simp [hb],fun c=>rfl,?_,uc,h6,h7⟩
  intro c m hcm
  refine zGC (by simp;omega) fun k u hk=>?_
  simp only [List.getElem?_take,List.getElem?_drop] at hk
  split at hk
  ·have:=zDd (c:=r) (o:=a.off) (n:=q0.cells.length) (k:=c+k) (u:=u) (by rw [h5];exact hk)
   rw [Nat.add_assoc];exact this
  ·cases hk
end
theorem zCi (u:Value) (us:List Value):flat (u::us)=u.cells.toList++flat us:=rfl
theorem zJS {sz:Nat}:∀ {us:List Value},(∀ u∈us,u.cells.size=sz)→∀ lo,(flat us).drop (lo*sz)=flat (us.drop lo)
 | [],_,lo=>by simp [flat]
 | u::us,h,0=>by simp
 | u::us,h,lo+1=>by
  have hu:u.cells.toList.length=sz:=by simpa using h u (by simp)
  rw [zCi,Nat.succ_mul,Nat.add_comm,← List.drop_drop,List.drop_left' hu]
  exact zJS (fun u hu=>h u (by simp [hu])) lo
theorem zJN {sz:Nat}:∀ {us:List Value},(∀ u∈us,u.cells.size=sz)→∀ n,(flat us).take (n*sz)=flat (us.take n)
 | [],_,n=>by simp [flat]
 | u::us,h,0=>by simp [flat]
 | u::us,h,n+1=>by
  have hu:u.cells.toList.length=sz:=by simpa using h u (by simp)
  rw [List.take_succ_cons,zCi,zCi,Nat.succ_mul,Nat.add_comm,List.take_append,List.take_of_length_le (by omega),hu]
  congr 1
  rw [show sz+n*sz-sz=n*sz by omega]
  exact zJN (fun u hu=>h u (by simp [hu])) n
theorem zBj {sz:Nat}:∀ {us:List Value},(∀ u∈us,u.cells.size=sz)→(flat us).length=us.length*sz
 | [],_=>by simp [flat]
 | u::us,h=>by
  have hu:u.cells.toList.length=sz:=by simpa using h u (by simp)
  rw [zCi,List.length_append,hu,zBj (fun u hu=>h u (by simp [hu])),List.length_cons,Nat.succ_mul,Nat.add_comm]
theorem zIf {c:Array Value} {o sz m:Nat} {us:List Value} (hs:∀ u∈us,u.cells.size=sz) (hm:us.length=m) (h:seg c o (m*sz)=flat us) {lo n:Nat} (hn:lo+n≤m) :
  seg c (o+lo*sz) (n*sz)=flat ((us.drop lo).take n):=by
 have h1:seg c (o+lo*sz) (n*sz)=(((seg c o (m*sz)).drop (lo*sz)).take (n*sz)):=by
  apply List.ext_getElem?
  intro k
  simp only [seg,List.getElem?_take,List.getElem?_drop]
  by_cases hk:k<n*sz
  ·have:lo*sz+n*sz≤m*sz:=by rw [← Nat.add_mul];exact Nat.mul_le_mul_right _ hn
   rw [if_pos hk,if_pos hk,if_pos (by omega),Nat.add_assoc]
  ·rw [if_neg hk,if_neg hk]
 rw [h1,h,zJS hs,zJN (fun u hu=>hs u (List.mem_of_mem_drop hu))]
theorem zAX.map_isAgg {us:List Value} {xs:List PV} (h:us.map zCa=xs.map PV.isAgg) (lo n:Nat):((us.drop lo).take n).map zCa=((xs.drop lo).take n).map PV.isAgg:=by
 rw [List.map_take,List.map_drop,h,List.map_take,List.map_drop]
section
variable {w:World} {Φ Φ':Nat→Prop} {rv:Nat→Value} {E E':Nat→PV}
theorem zBO {A:Al} {ps:List PV} {us:List Value} (h:zAX w Φ A ps us []) (c n:Nat):zAX w Φ A ((ps.drop c).take n) ((us.drop c).take n) []:=by
 have key:∀ (ps:List PV) (us:List Value) (c n:Nat),zAX w Φ A ps us []→zAX w Φ A ((ps.drop c).take n) ((us.drop c).take n) []:=by
  intro ps
  induction ps with
  | nil=>intro us c n h;rw [h.1];simp [zAX]
  | cons p ps ih =>
   intro us c n h
   obtain ⟨v,vs,L1,L2,rfl,hL,h1,h2⟩:=h
   obtain ⟨rfl,rfl⟩:L1=[]∧L2=[]:=by simpa using hL.symm
   cases c with
   | succ c=>simpa using ih vs c n h2
   | zero =>
    cases n with
    | zero=>simp [zAX]
    | succ n=>exact ⟨v,_,[],[],rfl,rfl,h1,by simpa using ih vs 0 n h2⟩
 exact key ps us c n h
theorem zCV {a:PV} {v:Value} (hw:a.isWay=true) (h:zA1 w rv E a v):v.oneCell'=true:=by
 cases a<;>first | cases hw | skip
 ·obtain ⟨_,a,rfl,_⟩:=h;rfl
 ·obtain ⟨_,⟨a,c,rfl,_⟩,_⟩:=h;rfl
 ·obtain ⟨_,a,c,rfl,_⟩:=h;rfl
 ·obtain ⟨_,⟨b,rfl⟩,_⟩:=h;rfl
 ·exact h.elim
theorem zB1 {A:Al} (hA:∀ a v,a.isWay=true→A a v→v.oneCell'=true) {q:PV} {u:Value} {L:List Nat} (h:Rep w Φ A q u L) (hq:q.oneCell=true):u.oneCell'=true:=by
 cases q<;>first | cases hq | skip
 case int=>rw [h.1];rfl
 case bool=>rw [h.1];rfl
 case nilp=>rw [h.1];rfl
 case nilf=>rw [h.1];rfl
 case nilm=>rw [h.1];rfl
 case nn=>obtain ⟨_,a,n,rfl⟩:=h;rfl
 case nils=>rw [h.1];rfl
 case sl=>obtain ⟨_,⟨_,a,n,rfl,_⟩ | ⟨a,n,c,us,sz,rfl,_⟩⟩:=h<;>rfl
 case own=>obtain ⟨_,_,rfl⟩ | ⟨a,n,c,us,L',_,rfl,_⟩:=h<;>rfl
 case ref=>obtain ⟨_,a,c,u,rfl,_⟩:=h;rfl
 case box=>obtain ⟨a,c,u,L',_,rfl,_⟩:=h;rfl
 case map=>obtain ⟨_,b,e,rfl,_⟩:=h;rfl
 case omap=>obtain ⟨b,e,_,rfl,_⟩:=h;rfl
 case func=>obtain ⟨_,fs,cs,rfl,_⟩:=h;rfl
 all_goals exact hA _ _ rfl h.2
theorem zBA {v:Value} (h:v.oneCell'=true):v.cells=#[v]∧zCa v=false:=by
 cases v<;>first | exact ⟨rfl,rfl⟩ | cases h
theorem zBf {p:PV} (h:p.oneCell=true):p.cells=[p]∧p.isAgg=false:=by
 cases p<;>first | exact ⟨rfl,rfl⟩ | cases h
theorem zPk {A A':Al} (hA1:∀ a v,a.isWay=true→A a v→v.oneCell'=true) (hΦ:∀ b,Φ b→Φ' b) (hA:∀ a v,a.isWay=true→A a v→A' a v) {x:PV} {xv:Value} {Lx:List Nat} (hx:Rep w Φ A x xv Lx) (hL:∀ b∈Lx,Φ' b) {i c:Nat} {sh:Option Nat} {v:Value} {a:Addr}
  (hv:v = .pointer (some a)) (ha:∀ a',zA4 xv x i c=some a'→a=a'):Rep w Φ' A' (zDu i c sh x) v []:=by
 simp only [zDu]
 cases hh:zA6 x with
 | none=>rfl
 | some xs =>
  simp only
  cases hi:xs[i]? with
  | none=>rfl
  | some y =>
   simp only
   obtain ⟨ux,row,ad,Ly,h1,h2,h3,h4,h5,h6,h7,h8,h9⟩:=zKZ hx hh hi
   have jG:=ha _ (h5 c)
   have hbel:∀ a v,a.isWay=true→zGk A x a v→A' a v:=fun a v hw h=>hA a v hw (zFW h)
   cases sh with
   | some m =>
    simp only
    by_cases yP:c+m≤y.cells.length
    ·rw [Nat.ble_eq_true_of_le yP]
     cases hya:y.isAgg with
     | false=>rfl
     | true =>
      simp only [Bool.and_self,cond_true]
      cases y<;>simp [PV.isAgg] at hya
      rename_i cs
      obtain ⟨vs,rfl,hr⟩:=h9
      have j2:=zBO (zDq hΦ cs _ Ly (fun b hb=>hL b (h4 b hb)) hr) c m
      have hZ:=hr.length
      refine ⟨rfl,a,row,.agg ((vs.toList.drop c).take m).toArray,hv,by rw [jG];rfl,by rw [jG];exact hL _ h1,by rw [jG];exact h3.any,?_,⟨?_,rfl⟩,?_⟩
      ·rw [jG]
       simp only [zAr,PV.cells,zBg,Value.cells]
       have:=h6 c m yP
       simp only [PV.cells] at yP
       rw [show ((cs.drop c).take m).length=m by simp;omega,this];rfl
      ·simp only [Value.cells,PV.cells,zBg];simp at hZ ⊢;omega
      ·refine ⟨_,rfl,?_⟩
       have e:zAD ((cs.drop c).take m)=((zAD cs).drop c).take m:=by rw [zCt,zCt,List.map_take,List.map_drop]
       simp only [PV.cells] 
       rw [e]
       exact j2.mono zDf.refl hbel (by simp)
    ·have:Nat.ble (c+m) y.cells.length=false:=by
      cases hb:Nat.ble (c+m) y.cells.length with
      | false=>rfl
      | true=>exact absurd (Nat.le_of_ble_eq_true hb) yP
     rw [this];rfl
   | none =>
    simp only
    cases hc:y.cells[c]? with
    | none=>rfl
    | some q =>
     simp only
     obtain ⟨u,La,Lu,Lb,hu,vd,kf,_,_⟩:=h9.cell hc h7
     have yN:c<y.cells.length:=(List.getElem?_eq_some_iff.1 hc).1
     cases uI:q.oneCell with
     | false=>rfl
     | true =>
      simp only [cond_true]
      have ka:=zBA (zB1 (fun a v hw h=>hA1 a v hw (zFW h)) kf uI)
      have ve:=zBf uI
      refine ⟨rfl,a,row,u,hv,by rw [jG];rfl,by rw [jG];exact hL _ h1,by rw [jG];exact h3.any,?_,⟨?_,?_⟩,?_⟩
      ·rw [jG,zCZ,ve.1,ka.1]
       have:=h6 c 1 (by omega)
       simp only [zAr,List.length_singleton]
       rw [this]
       have:c<ux.cells.toList.length:=by simpa [h8] using yN
       rw [List.drop_eq_getElem_cons this]
       have:ux.cells.toList[c]=u:=by rw [List.getElem?_eq_getElem this] at hu;simpa using hu
       simp [this]
      ·rw [zCZ,ve.1,ka.1];rfl
      ·rw [zCY,ve.2,ka.2]
      ·exact (zDY hΦ q u Lu (fun b hb=>hL b (h4 b (by rw [vd];simp [hb]))) kf).mono zDf.refl hbel (by simp)
end
theorem zLL {u u':Value} (h:u.cells.toList=u'.cells.toList) (ha:zCa u=zCa u'):u=u':=by
 have hc:u.cells=u'.cells:=by
  have:=congrArg List.toArray h
  simpa using this
 cases hu:zCa u with
 | true =>
  rw [hu] at ha
  cases u<;>simp [zCa] at hu
  cases u'<;>simp [zCa] at ha
  exact congrArg Value.agg hc
 | false =>
  rw [hu] at ha
  have h1:u.cells=#[u]:=by cases u<;>first | rfl | simp [zCa] at hu
  have h2:u'.cells=#[u']:=by cases u'<;>first | rfl | simp [zCa] at ha
  rw [h1,h2] at hc
  simpa using hc
theorem zO6 {sz:Nat}:∀ {us us':List Value},(∀ u∈us,u.cells.size=sz)→(∀ u∈us',u.cells.size=sz)→us.map zCa=us'.map zCa→flat us=flat us'→us=us'
 | [],[],_,_,_,_=>rfl
 | [],_::_,_,_,h,_=>by simp at h
 | _::_,[],_,_,h,_=>by simp at h
 | u :: us,u'::us',h1,h2,ha,hf=>by
  simp only [List.map_cons,List.cons.injEq] at ha
  rw [zCi,zCi] at hf
  have hl:u.cells.toList.length=u'.cells.toList.length:=by
   have:=h1 u (by simp);have:=h2 u' (by simp);simp;omega
  obtain ⟨h3,h4⟩:=List.append_inj hf hl
  rw [zLL h3 ha.1,zO6 (fun u hu=>h1 u (by simp [hu])) (fun u hu=>h2 u (by simp [hu])) ha.2 h4]
section
variable {w:World} {Φ Φ':Nat→Prop}
theorem zEK.uniq {b:Nat} {c c':Array Value} (h:zEK w b c) (h':zEK w b c'):c=c':=by
 obtain ⟨e,h⟩:=h;obtain ⟨e',h'⟩:=h'
 rw [h] at h';cases h';rfl
mutual
theorem Rep.uniq {A A':Al}:∀ (p:PV) (v:Value) (L L':List Nat),Rep w Φ A p v L→Rep w Φ' A' p v L'→L=L'
 | .own sz xs,v,L,L',h,h'=>by
  obtain ⟨h1,h2,h3⟩ | ⟨a,n,c,us,M,rfl,h1,h2,h3,h4,h5,h6,h7,h8,h9⟩:=h
  ·obtain ⟨_,g2,_⟩ | ⟨a,n,c,us,M,rfl,g1,_⟩:=h'
   ·rw [h2,g2]
   ·rw [h3] at g1;cases g1
  ·obtain ⟨_,_,g3⟩ | ⟨a',n',c',us',M',rfl,g1,g2,g3,g4,g5,g6,g7,g8,g9⟩:=h'
   ·rw [h1] at g3;cases g3
   ·rw [h1] at g1;cases g1
    have:=h4.uniq g4;subst this
    have:us=us':=zO6 h7.1 g7.1 (h7.2.trans g7.2.symm) (h8.symm.trans g8)
    subst this
    rw [zAX.uniq xs us M M' h9 g9]
 | .box q,v,L,L',h,h'=>by
  obtain ⟨a,c,u,M,rfl,h1,h2,h4,h5,h6,h7⟩:=h
  obtain ⟨a',c',u',M',rfl,g1,g2,g4,g5,g6,g7⟩:=h'
  rw [h1] at g1;cases g1
  have:=h4.uniq g4;subst this
  have:u=u':=zLL (h5.symm.trans g5) (h6.2.trans g6.2.symm)
  subst this
  rw [Rep.uniq q u M M' h7 g7]
 | .omap es,v,L,L',h,h'=>by
  obtain ⟨b,ents,rfl,h1,h3,h4⟩:=h
  obtain ⟨b',ents',rfl,g1,g3,g4⟩:=h'
  rw [h1] at g1;cases g1;rfl
 | .agg cs,v,L,L',h,h'=>by
  obtain ⟨vs,rfl,h⟩:=h
  obtain ⟨vs',g1,h'⟩:=h'
  cases g1;exact zAX.uniq cs _ L L' h h'
 | .tup cs,v,L,L',h,h'=>by
  obtain ⟨vs,rfl,h⟩:=h
  obtain ⟨vs',g1,h'⟩:=h'
  cases g1;exact zAX.uniq cs _ L L' h h'
 | .lock q,v,L,L',h,h'=>Rep.uniq q v L L' h h'
 | .bad,_,_,_,h,h'=>by rw [show _=_ from h,show _=_ from h']
 | .und,_,_,_,h,h'=>by rw [h.2,h'.2]
 | .int ..,_,_,_,h,h'=>by rw [h.2,h'.2]
 | .bool _,_,_,_,h,h'=>by rw [h.2,h'.2]
 | .nilp,_,_,_,h,h'=>by rw [h.2,h'.2]
 | .nilf,_,_,_,h,h'=>by rw [h.2,h'.2]
 | .nilm,_,_,_,h,h'=>by rw [h.2,h'.2]
 | .nn,_,_,_,h,h'=>by rw [h.1,h'.1]
 | .nils _,_,_,_,h,h'=>by rw [h.2,h'.2]
 | .sl xs,_,_,_,h,h'=>by rw [h.1,h'.1]
 | .ref q,_,_,_,h,h'=>by rw [h.1,h'.1]
 | .map es,_,_,_,h,h'=>by rw [h.1,h'.1]
 | .func _ _ _,_,_,_,h,h'=>by rw [h.1,h'.1]
 | .addr ..,_,_,_,h,h'=>by rw [h.1,h'.1]
 | .bor ..,_,_,_,h,h'=>by rw [h.1,h'.1]
 | .bsl ..,_,_,_,h,h'=>by rw [h.1,h'.1]
 | .bmap ..,_,_,_,h,h'=>by rw [h.1,h'.1]
 | .yld _,_,_,_,h,h'=>by rw [h.1,h'.1]
 | .log ..,_,_,_,h,h'=>by rw [h.1,h'.1]
theorem zAX.uniq {A A':Al}:∀ (ps:List PV) (vs:List Value) (L L':List Nat),zAX w Φ A ps vs L→zAX w Φ' A' ps vs L'→L=L'
 | [],_,_,_,h,h'=>by rw [h.2,h'.2]
 | p::ps,vs,L,L',h,h'=>by
  obtain ⟨v,vs',L1,L2,rfl,rfl,h1,h2⟩:=h
  obtain ⟨v',vs'',M1,M2,g0,rfl,g1,g2⟩:=h'
  cases g0
  rw [Rep.uniq p v L1 M1 h1 g1,zAX.uniq ps vs' L2 M2 h2 g2]
end
end
theorem zH6 {w:World} {Φ Φ':Nat→Prop} {A A':Al} (hΦ:∀ b,Φ b→Φ' b) {x:PV} {xv:Value} {Lx:List Nat} (hx:Rep w Φ A x xv Lx) (hL:∀ b∈Lx,Φ' b) {z lo n:Nat} {v:Value}
  (ha:∀ sz xs,x = .own sz xs→z=sz∧zBH v xv sz lo n):Rep w Φ' A' (zCp lo n x) v []:=by
 cases x<;>try rfl
 rename_i sz xs
 simp only [zCp]
 by_cases yP:lo+n≤xs.length
 ·rw [Nat.ble_eq_true_of_le yP];simp only [cond_true]
  obtain ⟨_,hs⟩:=ha sz xs rfl
  obtain ⟨h1,h2,h3⟩ | ⟨a,m,c,us,M,rfl,h1,h2,h3,h4,h5,h6,h7,h8,h9⟩:=hx
  ·subst h1;subst h3
   have hn:n=0:=by simp at yP;omega
   subst hn
   refine ⟨rfl,.inl ⟨by simp [zAD],none,0,hs.1,fun _=>rfl⟩⟩
  ·subst h1
   obtain ⟨rfl,yR⟩:=hs
   have jA:us.length=xs.length:=by have:=congrArg List.length h7.2;simpa using this
   by_cases hn:n=0
   ·subst hn;exact ⟨rfl,.inl ⟨by simp [zAD],_,_,rfl,fun h=>by cases h⟩⟩
   ·refine ⟨rfl,.inr ⟨zAr a (lo*sz),m-lo,c,(us.drop lo).take n,sz,?_,rfl,?_,hL _ (by simp [zAr]),h4.any,?_,⟨?_,?_⟩,?_,?_⟩⟩
    ·rw [zBg,show ((xs.drop lo).take n).length=n by simp;omega]
    ·rw [zBg];simp;omega
    ·intro y hy
     rw [zCt] at hy
     obtain ⟨y,uJ,rfl⟩:=List.mem_map.1 hy
     rw [zCZ];exact h6 y (List.mem_of_mem_drop (List.mem_of_mem_take uJ))
    ·intro u hu;exact h7.1 u (List.mem_of_mem_drop (List.mem_of_mem_take hu))
    ·rw [zGH];exact zAX.map_isAgg h7.2 lo n
    ·rw [zBg,show ((xs.drop lo).take n).length=n by simp;omega]
     exact zIf h7.1 jA h8 (by omega)
    ·have e:zAD ((xs.drop lo).take n)=((zAD xs).drop lo).take n:=by rw [zCt,zCt,List.map_take,List.map_drop]
     rw [e]
     exact zBO (zDq hΦ xs us M (fun b hb=>hL b (by simp [hb])) h9) lo n
 ·have:Nat.ble (lo+n) xs.length=false:=by
   cases hb:Nat.ble (lo+n) xs.length with
   | false=>rfl
   | true=>exact absurd (Nat.le_of_ble_eq_true hb) yP
  rw [this];rfl
theorem zG1 {w:World} {Φ Φ':Nat→Prop} {A A':Al} (hΦ:∀ b,Φ b→Φ' b) {x:PV} {xv:Value} {Lx:List Nat} (hx:Rep w Φ A x xv Lx) (hL:∀ b∈Lx,Φ' b) {v:Value}
  (ha:∀ es,x = .omap es→v=xv):Rep w Φ' A' (zEv x) v []:=by
 cases x<;>try rfl
 rename_i es
 obtain ⟨b,ents,rfl,h1,h3,h4⟩:=hx
 refine ⟨rfl,b,ents,(ha es rfl).trans h1,hL _ (by simp),h3,zDN.same (fun b hb=>⟨hΦ b hb,rfl⟩) es _ _ h4⟩
section
variable {w:World} {Φ Φ':Nat→Prop}
mutual
theorem Rep.ways {A A':Al}:∀ (p:PV) (v:Value) (L:List Nat),(∀ a v,a.isWay=true→(∀ x∈a.ways,x∈p.ways)→A a v→A' a v)→Rep w Φ A p v L→Rep w Φ A' p v L
 | .bad,_,_,_,h=>h
 | .und,_,_,_,h=>h
 | .int ..,_,_,_,h=>h
 | .bool _,_,_,_,h=>h
 | .nilp,_,_,_,h=>h
 | .nilf,_,_,_,h=>h
 | .nilm,_,_,_,h=>h
 | .nn,_,_,_,h=>h
 | .nils _,_,_,_,h=>h
 | .agg cs,v,L,hA,h=>by
  obtain ⟨vs,rfl,h⟩:=h
  exact ⟨vs,rfl,zAX.ways cs _ L (fun a v hw hx ha=>hA a v hw hx ha) h⟩
 | .tup cs,v,L,hA,h=>by
  obtain ⟨vs,rfl,h⟩:=h
  exact ⟨vs,rfl,zAX.ways cs _ L (fun a v hw hx ha=>hA a v hw hx ha) h⟩
 | .sl xs,_,_,_,h=>h
 | .own sz xs,_,_,_,h=>h
 | .ref q,v,L,hA,h=>by
  obtain ⟨rfl,a,c,u,h1,h2,h3,h4,h5,h6,h7⟩:=h
  exact ⟨rfl,a,c,u,h1,h2,h3,h4,h5,h6,Rep.ways q u [] (fun a v hw hx ha=>hA a v hw hx ha) h7⟩
 | .box q,v,L,hA,h=>by
  obtain ⟨a,c,u,L',h0,h1,h2,h4,h5,h6,h7⟩:=h
  exact ⟨a,c,u,L',h0,h1,h2,h4,h5,h6,Rep.ways q u L' (fun a v hw hx ha=>hA a v hw hx ha) h7⟩
 | .map es,_,_,_,h=>h
 | .omap es,_,_,_,h=>h
 | .func g a b,v,L,hA,h=>by
  obtain ⟨rfl,fs,cs,h1,h2,h3⟩:=h
  exact ⟨rfl,fs,cs,h1,zAX.ways a _ [] (fun x v hw hx ha=>hA x v hw (fun y hy=>List.mem_append.2 (.inl (hx y hy))) ha) h2,zAX.ways b _ [] (fun x v hw hx ha=>hA x v hw (fun y hy=>List.mem_append.2 (.inr (hx y hy))) ha) h3⟩
 | .addr ..,v,L,hA,h=>⟨h.1,hA _ _ rfl (fun _ h=>h) h.2⟩
 | .bor ..,v,L,hA,h=>⟨h.1,hA _ _ rfl (fun _ h=>h) h.2⟩
 | .bsl ..,v,L,hA,h=>⟨h.1,hA _ _ rfl (fun _ h=>h) h.2⟩
 | .bmap ..,v,L,hA,h=>⟨h.1,hA _ _ rfl (fun _ h=>h) h.2⟩
 | .lock q,v,L,hA,h=>Rep.ways q v L (fun a v hw hx ha=>hA a v hw hx ha) h
 | .yld _,v,L,hA,h=>h
 | .log ..,v,L,hA,h=>⟨h.1,hA _ _ rfl (fun _ h=>h) h.2⟩
theorem zAX.ways {A A':Al}:∀ (ps:List PV) (vs:List Value) (L:List Nat),(∀ a v,a.isWay=true→(∀ x∈a.ways,x∈zBn ps)→A a v→A' a v)→zAX w Φ A ps vs L→zAX w Φ A' ps vs L
 | [],_,_,_,h=>h
 | p::ps,vs,L,hA,h=>by
  obtain ⟨v,vs',L1,L2,h0,h1,h2,h3⟩:=h
  exact ⟨v,vs',L1,L2,h0,h1,Rep.ways p v L1 (fun a v hw hx ha=>hA a v hw (fun y hy=>List.mem_append.2 (.inl (hx y hy))) ha) h2,zAX.ways ps vs' L2 (fun a v hw hx ha=>hA a v hw (fun y hy=>List.mem_append.2 (.inr (hx y hy))) ha) h3⟩
end
mutual
theorem zGs:∀ p:PV,∀ x∈(zAP p).ways,x∈p.ways
 | .agg cs,x,h=>zG4 cs x h
 | .box q,x,h=>zGs q x h
 | .own ..,x,h=>by cases h
 | .omap _,x,h=>by cases h
 | .tup _,x,h=>by cases h
 | .lock _,x,h=>by cases h
 | .bad,_,h=>h
 | .und,_,h=>h
 | .int ..,_,h=>h
 | .bool _,_,h=>h
 | .nilp,_,h=>h
 | .nilf,_,h=>h
 | .nilm,_,h=>h
 | .nn,_,h=>h
 | .nils _,_,h=>h
 | .sl _,_,h=>h
 | .ref _,_,h=>h
 | .map _,_,h=>h
 | .func ..,_,h=>h
 | .addr ..,_,h=>h
 | .bor ..,_,h=>h
 | .bsl ..,_,h=>h
 | .bmap ..,_,h=>h
 | .yld _,_,h=>h
 | .log ..,_,h=>h
theorem zG4:∀ ps:List PV,∀ x∈zBn (zAD ps),x∈zBn ps
 | [],_,h=>h
 | p::ps,x,h=>by
  simp only [zAD,zBn,List.mem_append] at h ⊢
  rcases h with h | h
  ·exact .inl (zGs p x h)
  ·exact .inr (zG4 ps x h)
end
theorem zJ2 (p:PV):(zAP p).oneCell=p.oneCell:=by cases p<;>rfl
theorem zDR (ag:Bool) (sz:Nat):∀ (m:Nat) (cs:List PV),(zCf ag sz m cs).length=m
 | 0,_=>rfl
 | m+1,cs=>by simp [zCf,zDR ag sz m]
theorem zFX {A:Al} (hA:∀ a v,a.isWay=true→A a v→v.oneCell'=true) {ag:Bool} {sz:Nat}:∀ (m:Nat) (ps:List PV) (us:List Value),ps.length=m*sz→(ag=false→sz=1∧∀ q∈ps,q.oneCell=true)→zAX w Φ A ps us [] →
  ∃ us',zAX w Φ A (zCf ag sz m ps) us' []∧flat us'=us∧(∀ u∈us',u.cells.size=sz)∧us'.map zCa=(zCf ag sz m ps).map PV.isAgg∧∀ x∈zCf ag sz m ps,x.cells.length=sz
 | 0,ps,us,hl,_,h=>by
  have:ps=[]:=List.eq_nil_of_length_eq_zero (by simpa using hl)
  subst this
  exact ⟨[],⟨rfl,rfl⟩,by rw [h.1];rfl,by simp,rfl,by simp [zCf]⟩
 | m + 1,ps,us,hl,ho,h=>by
  have jA:=h.length
  rw [Nat.succ_mul] at hl
  have h1:zAX w Φ A (ps.take sz) (us.take sz) []:=by simpa using zBO h 0 sz
  have h2:zAX w Φ A (ps.drop sz) (us.drop sz) []:=by
   have:=zBO h sz (ps.length-sz)
   rwa [List.take_of_length_le (by simp),List.take_of_length_le (by simp;omega)] at this
  obtain ⟨us',h3,h4,h5,h6,h7⟩:=zFX hA (ag:=ag) (sz:=sz) m (ps.drop sz) (us.drop sz) (by simp;omega) (fun j8=>⟨(ho j8).1,fun q hq=>(ho j8).2 q (List.mem_of_mem_drop hq)⟩) h2
  cases ag with
  | true =>
   refine ⟨.agg (us.take sz).toArray::us',⟨_,us',[],[],rfl,rfl,⟨_,rfl,by simpa using h1⟩,h3⟩,?_,?_,?_,?_⟩
   ·rw [zCi,h4];simp [Value.cells]
   ·intro u hu
    rcases List.mem_cons.1 hu with rfl | hu
    ·simp [Value.cells];omega
    ·exact h5 u hu
   ·simp only [zCf,cond_true,List.map_cons,h6];rfl
   ·intro x hx
    simp only [zCf,cond_true] at hx
    rcases List.mem_cons.1 hx with rfl | hx
    ·simp [PV.cells];omega
    ·exact h7 x hx
  | false =>
   obtain ⟨ui,yO⟩:=ho rfl
   subst ui
   match ps,us,h,yO,hl with
   | p :: ps,us,h,yO,hl =>
    obtain ⟨v,vs',L1,L2,rfl,hL,g1,g2⟩:=h
    obtain ⟨rfl,rfl⟩:L1=[]∧L2=[]:=by simpa using hL.symm
    have hp:=yO p (by simp)
    have k1:=zBA (zB1 hA g1 hp)
    have k2:=zBf hp
    refine ⟨v::us',⟨v,us',[],[],rfl,rfl,g1,h3⟩,?_,?_,?_,?_⟩
    ·rw [zCi,h4,k1.1];simp
    ·intro u hu
     rcases List.mem_cons.1 hu with rfl | hu
     ·rw [k1.1];rfl
     ·exact h5 u hu
    ·simp only [zCf,cond_false,List.headD_cons,List.map_cons,k1.2,k2.2]
     congr 1
    ·intro x hx
     simp only [zCf,cond_false,List.headD_cons] at hx
     rcases List.mem_cons.1 hx with rfl | hx
     ·rw [k2.1];rfl
     ·exact h7 x hx
end
section
variable {w:World} {Φ Φ':Nat→Prop} {rv:Nat→Value} {E E':Nat→PV} {A:Al}
theorem zGy {ps:List PV} {us:List Value} {Lx:List Nat} (h:zAX w Φ A ps us Lx) (c n:Nat):∃ Ly,(∀ b∈Ly,b∈Lx)∧zAX w Φ A ((ps.drop c).take n) ((us.drop c).take n) Ly:=by
 induction ps generalizing us Lx c n with
 | nil=>rw [h.1];exact ⟨[],by simp,by simp [zAX]⟩
 | cons p ps ih =>
  obtain ⟨v,vs',L1,L2,rfl,rfl,g1,g2⟩:=h
  cases c with
  | succ c=>obtain ⟨Ly,h1,h2⟩:=ih g2 c n;exact ⟨Ly,fun b hb=>by simp [h1 b hb],by simpa using h2⟩
  | zero =>
   cases n with
   | zero=>exact ⟨[],by simp,by simp [zAX]⟩
   | succ n =>
    obtain ⟨Ly,h1,h2⟩:=ih g2 0 n
    exact ⟨L1++Ly,fun b hb=>by rcases List.mem_append.1 hb with h | h;simp [h];simp [h1 b h],v,_,L1,Ly,rfl,rfl,g1,by simpa using h2⟩
end
section
variable {w:World} {Φ Φ':Nat→Prop} {rv:Nat→Value} {E E':Nat→PV}
theorem zI9 {a:PV} {v:Value} (hw:a.isWay=true) (h:zA1 w rv E a v):a.ways≠[]:=by
 cases a<;>first | (cases hw;done) | exact h.elim | simp [PV.ways]
theorem zGQ {A A':Al} (hA1:∀ a v,a.isWay=true→A a v→a.ways≠[]) (hΦ:∀ b,Φ b→Φ' b) {x:PV} {xv:Value} {Li:List Nat} (vf:Rep w Φ A x xv Li) (jS:∀ b∈Li,Φ' b) {i c sz m cap:Nat} {ag:Bool} {v:Value} {ad:Addr}
  (hv:v = .slice (some ad) m cap) (yR:m≤cap) (hn:∀ a',zA4 xv x i c=some a'→ad=a'):Rep w Φ' A' (zCj i c sz ag m x) v []:=by
 simp only [zCj]
 cases hh:zA6 x with
 | none=>rfl
 | some xs =>
  simp only
  cases hi:xs[i]? with
  | none=>rfl
  | some y =>
   simp only
   cases hc:(zCg ag sz m ((y.cells.drop c).take (m*sz))&&(zBn y.cells).isEmpty) with
   | false=>rfl
   | true =>
    simp only [cond_true]
    simp only [Bool.and_eq_true,zCg] at hc
    obtain ⟨⟨yN,qm⟩,vE⟩:=hc
    have yN:=Nat.eq_of_beq_eq_true yN
    obtain ⟨ux,row,ad0,Lx,k1,k2,k3,k4,k5,k6,k7,k8,k9⟩:=zKZ vf hh hi
    have jG:=hn _ (k5 c)
    subst jG
    have k9':=k9.mono (A':=A) zDf.refl (fun _ _ _ h=>zFW h) (fun _ _=>rfl)
    have zA6:=k9'.cellsAll k7
    have w9:zAX w Φ zB6 y.cells ux.cells.toList Lx:=zA6.ways _ _ _ fun a v hw hx ha=>by
     have h0:zBn y.cells=[]:=by simpa using vE
     rw [h0] at hx
     have h1:=hA1 a v hw ha
     cases uj:a.ways with
     | nil=>exact absurd uj h1
     | cons z zs=>have:=hx z (by rw [uj];simp);cases this
    obtain ⟨Ly,hly,wa⟩:=zGy w9 c (m*sz)
    have qn:=zDq hΦ _ _ Ly (fun b hb=>jS b (k4 b (hly b hb))) wa
    obtain ⟨us',q1,q2,q3,q4,q5⟩:=zFX (ag:=ag) (sz:=sz) (fun a v _ h=>h.elim) m _ _ (by rw [zBg];exact yN) (fun j8=>by
     simp only [j8,Bool.false_or,Bool.and_eq_true] at qm
     refine ⟨Nat.eq_of_beq_eq_true qm.1,fun q hq=>?_⟩
     rw [zCt] at hq
     obtain ⟨q0,hq0,rfl⟩:=List.mem_map.1 hq
     rw [zJ2];exact List.all_eq_true.1 qm.2 q0 hq0) qn
    have qo:(zCf ag sz m (zAD ((y.cells.drop c).take (m*sz)))).length=m:=zDR _ _ _ _
    by_cases hm:m=0
    ·subst hm;exact ⟨rfl,.inl ⟨rfl,_,_,hv,fun h=>by cases h⟩⟩
    ·refine ⟨rfl,.inr ⟨zAr ad0 c,cap,row,us',sz,by rw [qo];exact hv,rfl,by rw [qo];exact yR,jS _ k1,k3.any,q5,⟨q3,q4⟩,?_,q1⟩⟩
     rw [qo,q2]
     by_cases wc:m*sz=0
     ·rw [wc];simp [seg]
     ·have:c+m*sz≤y.cells.length:=by simp at yN;omega
      exact k6 c (m*sz) this
end
theorem zIw (r:Nat) (pre:zAO) (q:PV):Tame (inl r pre q):=by
 have h1 : ∀ i c sh x,(zDu i c sh x).isAgg=false∧(zDu i c sh x).dull=true:=by
  intro i c sh x
  simp only [zDu]
  split
  ·split
   ·split
    ·cases (Nat.ble _ _&&PV.isAgg _)<;>exact ⟨rfl,rfl⟩
    ·split
     ·rename_i q _;cases q.oneCell<;>exact ⟨rfl,rfl⟩
     ·exact ⟨rfl,rfl⟩
   ·exact ⟨rfl,rfl⟩
  ·exact ⟨rfl,rfl⟩
 have h2:∀ lo n x,(zCp lo n x).isAgg=false∧(zCp lo n x).dull=true:=by
  intro lo n x
  cases x<;>try exact ⟨rfl,rfl⟩
  simp only [zCp];cases Nat.ble _ _<;>exact ⟨rfl,rfl⟩
 have h5:∀ i c sz ag m x,(zCj i c sz ag m x).isAgg=false∧(zCj i c sz ag m x).dull=true:=by
  intro i c sz ag m x
  simp only [zCj]
  split
  ·split
   ·cases (zCg ag sz m _&&_)<;>exact ⟨rfl,rfl⟩
   ·exact ⟨rfl,rfl⟩
  ·exact ⟨rfl,rfl⟩
 have h3:∀ x,(zEv x).isAgg=false∧(zEv x).dull=true:=by intro x;cases x<;>exact ⟨rfl,rfl⟩
 have h4:∀ (o:Option PV) (f:PV→PV),(∀ x,(f x).isAgg=false∧(f x).dull=true)→(zGj o f).isAgg=false∧(zGj o f).dull=true:=by
  intro o f hf;cases o with
  | none=>exact ⟨rfl,rfl⟩
  | some x=>exact hf x
 constructor
 ·intro p
  cases p<;>try rfl
  all_goals
   rename_i a b
   simp only [inl]
   cases zAH r pre _ _<;>first | rfl | exact (h4 _ _ (h1 _ _ _)).1 | exact (h4 _ _ (h2 _ _)).1 | exact (h4 _ _ h3).1 | exact (h4 _ _ (h5 _ _ _ _ _)).1
 ·intro p hp
  cases p<;>first | (cases hp;done) | skip
  all_goals
   first | rfl | skip
  all_goals
   simp only [inl]
   cases zAH r pre _ _<;>first | rfl | exact (h4 _ _ (h1 _ _ _)).2 | exact (h4 _ _ (h2 _ _)).2 | exact (h4 _ _ h3).2 | exact (h4 _ _ (h5 _ _ _ _ _)).2
theorem zBG {w:World} {Φ:Nat→Prop} {A:Al} {p:PV} {v:Value} {L:List Nat} (h:Rep w Φ A p v L) {pre:zAO} {q:PV} (hq:zAz p pre=some q) :
  ∃ nv Li,zAN w v p pre=some (nv,q)∧(∀ b∈Li,b∈L)∧Rep w Φ (zIp A p pre) q nv Li:=by
 obtain ⟨nv,La,Li,Lb,h1,h2,h3,_⟩:=Rep.zip pre h hq
 exact ⟨nv,Li,h1,fun b hb=>by rw [h2];simp [hb],h3⟩
theorem zD2 {r r':Nat} {pre q:zAO}:zAH r pre r' q=true↔r'=r∧∃ rest,q=pre++rest:=by
 simp only [zAH,Bool.and_eq_true,List.isPrefixOf_iff_prefix]
 constructor
 ·rintro ⟨h1,rest,h2⟩;exact ⟨Nat.eq_of_beq_eq_true h1,rest,h2.symm⟩
 ·rintro ⟨rfl,rest,h2⟩;exact ⟨Nat.beq_refl _,rest,h2.symm⟩
section
variable {w w0:World} {U Φ0 Φ:Nat→Prop} {rv:Nat→Value} {E:Nat→PV} {L:Nat→List Nat}
theorem Conf.ice (h:Conf w0 U Φ0 w Φ rv E L) (M:Nat→Bool) {r:Nat} (hr:r<zAb) {pre:zAO} {q root':PV} (jR:(E r).unlock=E r) (hn:zAz (E r) pre=some q)
  (hm:zAv (fun _=>some (zAP q)) (E r) pre=some root') (yG:root'.unlock=root') :
  ∃ nv Li L',zAN w (rv r) (E r) pre=some (nv,q)∧Rep w Φ (zIp (zA1 w rv E) (E r) pre) q nv Li∧(∀ s,s≠r→L' s=L s) ∧
   Conf w0 U Φ0 w (fun b=>Φ b∨b∈Li) rv (fun s=>if s<zAb∨M s=true then (if s=r then root' else E s).mapW (inl r pre q) else E s) L':=by
 obtain ⟨nv,La,Li,Lb,vC,hL,hX,vc,uO⟩:=Rep.zip pre (h.rep r) hn
 have hΦ:∀ b,Φ b→Φ b∨b∈Li:=fun b hb => .inl hb
 have uk:=zIw r pre q
 have yW:=h.nodup r
 rw [hL] at yW
 simp only [List.nodup_append] at yW
 have vD:∀ b∈Li,b∉La++Lb:=by
  intro b hb j4
  rcases List.mem_append.1 j4 with h2 | h2
  ·exact yW.1.2.2 b h2 b hb rfl
  ·exact yW.2.2 b (by simp [hb]) b h2 rfl
 have hK:∀ a u,zA1 w rv E a u→zA1 w rv (fun s=>if s<zAb∨M s=true then (if s=r then root' else E s).mapW (inl r pre q) else E s) a u:=by
  intro a u ha
  have yF:=zCM ha
  refine ha.mono fun nv2 np2 j7 hh=>?_
  simp only [yF,true_or,if_true] at j7
  rw [zDo uk] at j7
  obtain ⟨np1,vT,wd⟩:=zCK uk j7 hh
  by_cases uQ:(zA3 a).1=r
  ·rw [uQ] at vT ⊢
   simp only [if_true,yG] at vT
   rcases uO w (zAP q) root' (fun _ _=>rfl) (fun _=>zCY q) hm _ nv2 np1 vT (zDD wd) with ⟨rest,_,h2⟩ | ⟨np0,h1,h2⟩
   ·have:=zHP h2
    rw [zDD wd] at this;cases this
   ·rw [jR];exact ⟨np0,h1,h2.trans wd⟩
  ·simp only [uQ,if_false] at vT
   exact ⟨np1,vT,wd⟩
 have hw1:∀ a v,a.isWay=true→zIp (zA1 w rv E) (E r) pre a v→zA1 w rv (fun s=>if s<zAb∨M s=true then (if s=r then root' else E s).mapW (inl r pre q) else E s) a v:=fun a v _ ha=>hK a v (zEr ha)
 have hA : ∀ a u,a.isWay=true→zA1 w rv E a u→Rep w (fun b=>Φ b∨b∈Li) (zA1 w rv (fun s=>if s<zAb∨M s=true then (if s=r then root' else E s).mapW (inl r pre q) else E s)) (inl r pre q a) u []:=by
  intro a u uh ha
  have node:∀ rest x,zAz q rest=some x→∃ xv Lx,zAN w (rv r) (E r).unlock (pre++rest)=some (xv,x)∧(∀ b∈Lx,b∈Li)∧Rep w Φ (zIp (zIp (zA1 w rv E) (E r) pre) q rest) x xv Lx:=by
   intro rest x hx
   obtain ⟨xv,Lx,h1,h2,h3⟩:=zBG hX hx
   exact ⟨xv,Lx,by rw [jR,zC4,vC];exact h1,h2,h3⟩
  have ho1:∀ rest a v,a.isWay=true→zIp (zIp (zA1 w rv E) (E r) pre) q rest a v→v.oneCell'=true:=fun rest a v hw h=>zCV hw (zEr (zEr h))
  cases a<;>first | (cases uh;done) | skip
  case addr r' p i c sh =>
   simp only [inl]
   cases hu:zAH r pre r' p with
   | false=>exact ⟨rfl,hK _ _ ha⟩
   | true =>
    obtain ⟨rfl,rest,rfl⟩:=zD2.1 hu
    simp only [cond_true,List.drop_left]
    cases hg:zAz q rest with
    | none=>rfl
    | some x =>
     obtain ⟨xv,Lx,h1,h2,h3⟩:=node rest x hg
     obtain ⟨_,a',h4,h5,h6⟩:=ha
     exact zPk (ho1 rest) hΦ (fun a v hw h=>hw1 a v hw (zEr h)) h3 (fun b hb => .inr (h2 b hb)) h4 fun a'' qp=>h6 xv x h1 a'' qp
  case bor r' p z lo n =>
   simp only [inl]
   cases hu:zAH r pre r' p with
   | false=>exact ⟨rfl,hK _ _ ha⟩
   | true =>
    obtain ⟨rfl,rest,rfl⟩:=zD2.1 hu
    simp only [cond_true,List.drop_left]
    cases hg:zAz q rest with
    | none=>rfl
    | some x =>
     obtain ⟨xv,Lx,h1,h2,h3⟩:=node rest x hg
     obtain ⟨_,_,h6⟩:=ha
     exact zH6 hΦ h3 (fun b hb => .inr (h2 b hb)) fun sz xs hx=>by
      subst hx
      obtain ⟨sz',xs',h7,h8,h9⟩:=h6 xv _ h1 rfl
      cases h7;exact ⟨h8,h9⟩
  case bsl r' p i c sz ag n =>
   simp only [inl]
   cases hu:zAH r pre r' p with
   | false=>exact ⟨rfl,hK _ _ ha⟩
   | true =>
    obtain ⟨rfl,rest,rfl⟩:=zD2.1 hu
    simp only [cond_true,List.drop_left]
    cases hg:zAz q rest with
    | none=>rfl
    | some x =>
     obtain ⟨xv,Lx,h1,h2,h3⟩:=node rest x hg
     obtain ⟨_,a',cap,h4,yR,h5,h6⟩:=ha
     exact zGQ (fun a v hw h=>zI9 hw (zEr (zEr h))) hΦ h3 (fun b hb => .inr (h2 b hb)) h4 yR fun a'' qp=>h6 xv x h1 a'' qp
  case bmap r' p =>
   simp only [inl]
   cases hu:zAH r pre r' p with
   | false=>exact ⟨rfl,hK _ _ ha⟩
   | true =>
    obtain ⟨rfl,rest,rfl⟩:=zD2.1 hu
    simp only [cond_true,List.drop_left]
    cases hg:zAz q rest with
    | none=>rfl
    | some x =>
     obtain ⟨xv,Lx,h1,h2,h3⟩:=node rest x hg
     obtain ⟨_,_,h6⟩:=ha
     exact zG1 hΦ h3 (fun b hb => .inr (h2 b hb)) fun es hx=>h6 xv x h1 es hx
  case log=>exact ha.elim
 have hs:zDf w w Φ (fun b=>Φ b∨b∈Li):=fun b hb=>⟨.inl hb,rfl⟩
 have y7:∀ b,b∈La++Lb→b∈L r:=fun b hb=>by rw [hL];simp at hb ⊢;rcases hb with h | h<;>simp [h]
 refine ⟨nv,Li,fun s=>if s=r then La++Lb else L s,vC,hX,fun s hs=>by simp [hs],?_,?_,?_,?_,?_,fun b hb => .inl (h.frz0 b hb),h.size,h.kept,h.os,h.tape,h.output⟩
 ·intro s
  by_cases yY:s=r
  ·subst yY
   simp only [if_true,hr,true_or]
   have h1:=vc w (fun b=>Φ b∨b∈Li) (zA1 w rv E) (zAP q) [] root' (fun _ _ _ h=>h) hs (fun _ _=>rfl) (fun _=>zCY q) (zDY hΦ q nv Li (fun b hb => .inr hb) hX) hm
   exact Rep.map uk.agg zDf.refl hA _ _ _ (fun _ _=>rfl) (by simpa using h1)
  ·by_cases ya:s<zAb∨M s=true
   ·simp only [yY,ya,if_false,if_true]
    exact Rep.map uk.agg hs hA _ _ _ (fun _ _=>rfl) (h.rep s)
   ·simp only [yY,ya,if_false]
    exact (h.rep s).mono hs (fun a u _ ha=>hK a u ha) (fun _ _=>rfl)
 ·intro s
  by_cases yY:s=r
  ·subst yY
   simp only [if_true,List.nodup_append]
   exact ⟨yW.1.1,yW.2.1,fun a ha b hb e=>yW.2.2 a (by simp [ha]) b hb e⟩
  ·simp only [yY,if_false];exact h.nodup s
 ·intro s s' hI b hb yH
  by_cases yY:s=r
  ·subst yY
   simp only [if_true] at hb
   rw [if_neg (Ne.symm hI)] at yH
   exact h.disj s s' hI b (y7 b hb) yH
  ·rw [if_neg yY] at hb
   by_cases hsr':s'=r
   ·subst hsr'
    simp only [if_true] at yH
    exact h.disj s s' hI b hb (y7 b yH)
   ·rw [if_neg hsr'] at yH;exact h.disj s s' hI b hb yH
 ·intro s b hb
  have jL:∃ t,b∈L t∧b∉Li:=by
   by_cases yY:s=r
   ·subst yY
    simp only [if_true] at hb
    exact ⟨s,y7 b hb,fun uP=>vD b uP hb⟩
   ·rw [if_neg yY] at hb
    exact ⟨s,hb,fun uP=>h.disj s r yY b hb (by rw [hL];simp [uP])⟩
  obtain ⟨t,h1,h2⟩:=jL
  obtain ⟨h3,h4,h5⟩:=h.own t b h1
  exact ⟨h3,fun hp=>hp.elim h4 h2,h5⟩
 ·intro b hb
  rcases hb with hb | hb
  ·exact h.frz b hb
  ·obtain ⟨h3,h4,h5⟩:=h.own r b (by rw [hL];simp [hb])
   exact ⟨h3,.inr h5⟩
end
end Go.Eng
namespace Go.Eng
open Go
theorem Env.get_set (e:Env) (s:Nat) (p:PV) (t:Nat):(e.set s p).get t=if t=s then p else e.get t:=by
 induction e with
 | nil =>
  simp only [Env.set,Env.get]
  by_cases h:t=s
  ·subst h;simp
  ·have:Nat.beq s t=false:=by
    cases hb:Nat.beq s t with
    | false=>rfl
    | true=>exact absurd (Nat.eq_of_beq_eq_true hb).symm h
   simp [this,h]
 | cons x e ih =>
  obtain ⟨k,v⟩:=x
  simp only [Env.set]
  cases hk:Nat.beq k s with
  | true =>
   have:=Nat.eq_of_beq_eq_true hk;subst this
   simp only [cond_true,Env.get]
   by_cases h:t=k
   ·subst h;simp
   ·have:Nat.beq k t=false:=by
     cases hb:Nat.beq k t with
     | false=>rfl
     | true=>exact absurd (Nat.eq_of_beq_eq_true hb).symm h
    simp [this,h]
  | false =>
   have hI:k≠s:=fun h=>by subst h;simp at hk
   simp only [cond_false]
   cases Nat.ble s k with
   | true =>
    simp only [cond_true,Env.get]
    by_cases h:t=s
    ·subst h;simp
    ·have:Nat.beq s t=false:=by
      cases hb:Nat.beq s t with
      | false=>rfl
      | true=>exact absurd (Nat.eq_of_beq_eq_true hb).symm h
     simp [this,h]
   | false =>
    simp only [cond_false,Env.get,ih]
    cases hb:Nat.beq k t with
    | true =>
     have:=Nat.eq_of_beq_eq_true hb;subst this
     simp [hI]
    | false=>rfl
theorem Env.get_map (e:Env) {g:PV→PV} (hg:g .bad = .bad) (s:Nat):Env.get (e.map fun x=>(x.1,g x.2)) s=g (e.get s):=by
 induction e with
 | nil=>simp [Env.get,hg]
 | cons x e ih =>
  obtain ⟨k,v⟩:=x
  simp only [List.map_cons,Env.get,ih]
  cases Nat.beq k s<;>rfl
theorem Env.get_kill (e:Env) (r:Nat) (pre:zAO) (s:Nat):(e.kill r pre).get s=(e.get s).mapW (lose r pre):=Env.get_map e (g:=fun p=>p.mapW (lose r pre)) rfl s
theorem Env.get_killEx (e:Env) (r:Nat) (keep:List zAO) (s:Nat):(e.killEx r keep).get s=(e.get s).mapW (zBE r keep):=Env.get_map e (g:=fun p=>p.mapW (zBE r keep)) rfl s
theorem Env.get_drop (e:Env) (l:List Nat) (s:Nat):(e.drop l).get s=if zMQ l s then .bad else e.get s:=by
 induction e with
 | nil=>simp [Env.drop,Env.get]
 | cons x e ih =>
  obtain ⟨k,v⟩:=x
  simp only [Env.drop] at ih ⊢
  simp only [List.filter_cons]
  by_cases hk:zMQ l k=true
  ·simp only [hk,Bool.not_true,Bool.false_eq_true,if_false,ih,Env.get]
   cases hb:Nat.beq k s with
   | true=>have:=Nat.eq_of_beq_eq_true hb;subst this;simp [hk]
   | false=>rfl
  ·simp only [hk,Bool.not_false,if_true,Env.get,ih]
   cases hb:Nat.beq k s with
   | true=>have:=Nat.eq_of_beq_eq_true hb;subst this;simp [hk]
   | false=>rfl
theorem Env.frz_eq {e e':Env} {r:Nat} {pre:zAO} (h:e.frz r pre=some e') :
  ∃ q root,(e.get r).isLock=false∧zAz (e.get r) pre=some q∧zAv (fun _=>some (zAP q)) (e.get r) pre=some root∧∀ s,e'.get s=(if s=r then root else e.get s).mapW (inl r pre q):=by
 simp only [Env.frz] at h
 cases hl:(e.get r).isLock with
 | true=>rw [hl] at h;cases h
 | false =>
 rw [hl] at h;simp only [cond_false] at h
 cases hq:zAz (e.get r) pre with
 | none=>rw [hq] at h;cases h
 | some q =>
  rw [hq] at h;simp only at h
  cases hm:zAv (fun _=>some (zAP q)) (e.get r) pre with
  | none=>rw [hm] at h;cases h
  | some root =>
   rw [hm] at h;simp only [Option.some.injEq] at h
   subst h
   refine ⟨q,root,rfl,rfl,hm,fun s=>?_⟩
   rw [Env.get_map (e.set r root) (g:=fun p=>p.mapW (inl r pre q)) rfl s,Env.get_set]
structure Hid where
 val:Nat→Value
 ds:List Deferred
structure St (w0:World) (U Φ0:Nat→Prop) (nt:Nat) (hv:Hid) (a:Act) (w:World) (e:Env) (Φ:Nat→Prop) (rv:Nat→Value) (E:Nat→PV) (L:Nat→List Nat):Prop where
 conf:Conf w0 U Φ0 w Φ rv E L
 env:∀ s,s<zAb→E s=e.get s
 size:a.tmps.size=nt
 small:nt≤2000000
 tmps:∀ t,t<nt→a.tmps.getD t undef=rv t
 parts:∀ d ps i,d<nt→E d = .tup ps→i<ps.length→i<16∧∃ vs,rv d = .tuple vs∧vs[i]? = some (rv (zBp d i))
 hid:∀ s,zAm≤s→s<zAx→rv s=hv.val s
 dfr:a.defers=hv.ds
def Fr (w0:World) (U Φ0:Nat→Prop) (nt:Nat) (hv:Hid) (a:Act) (w:World) (e:Env):Prop :=
 ∃ Φ rv E L,St w0 U Φ0 nt hv a w e Φ rv E L∧∀ g,zAb≤g→E g = .bad
def zAL (nt:Nat):Operand→Bool
 | .tmp t=>Nat.blt t nt
 | _=>true
theorem zBW {a b:Nat} (h:Nat.blt a b=true):a<b:=Nat.le_of_ble_eq_true h
section
variable {w0 w:World} {U Φ0 Φ:Nat→Prop} {nt:Nat} {hv:Hid} {a:Act} {e e':Env} {rv rv':Nat→Value} {E E':Nat→PV} {L L':Nat→List Nat} {o:zAC}
mutual
theorem zC9 {A:Al}:∀ (p:PV) (v:Value) (L:List Nat),p.heavy=false→Rep w Φ A p v L→L=[]
 | .own ..,_,_,hp,_=>by cases hp
 | .box _,_,_,hp,_=>by cases hp
 | .omap _,_,_,hp,_=>by cases hp
 | .lock _,_,_,hp,_=>by cases hp
 | .agg cs,_,_,hp,h=>by obtain ⟨vs,_,h⟩:=h;exact zHH cs _ _ hp h
 | .tup cs,_,_,hp,h=>by obtain ⟨vs,_,h⟩:=h;exact zHH cs _ _ hp h
 | .bad,_,_,_,h=>h
 | .und,_,_,_,h=>h.2
 | .int ..,_,_,_,h=>h.2
 | .bool _,_,_,_,h=>h.2
 | .nilp,_,_,_,h=>h.2
 | .nilf,_,_,_,h=>h.2
 | .nilm,_,_,_,h=>h.2
 | .nn,_,_,_,h=>h.1
 | .nils _,_,_,_,h=>h.2
 | .sl xs,_,_,_,h=>h.1
 | .ref q,_,_,_,h=>h.1
 | .map es,_,_,_,h=>h.1
 | .func _ _ _,_,_,_,h=>h.1
 | .addr ..,_,_,_,h=>h.1
 | .bor ..,_,_,_,h=>h.1
 | .bsl ..,_,_,_,h=>h.1
 | .bmap ..,_,_,_,h=>h.1
 | .yld _,_,_,_,h=>h.1
 | .log ..,_,_,_,h=>h.1
theorem zHH {A:Al}:∀ (ps:List PV) (vs:List Value) (L:List Nat),zCU ps=false→zAX w Φ A ps vs L→L=[]
 | [],_,_,_,h=>h.2
 | p::ps,_,_,hp,h=>by
  simp only [zCU,Bool.or_eq_false_iff] at hp
  obtain ⟨v,vs',L1,L2,rfl,rfl,h1,h2⟩:=h
  rw [zC9 p v L1 hp.1 h1,zHH ps vs' L2 hp.2 h2];rfl
end
def zXo (E E':Nat→PV):Prop:=∀ d ps,d<2000000→E' d = .tup ps→∃ ps',E d = .tup ps'∧ps'.length=ps.length
theorem zXo.refl:zXo E E:=fun _ ps _ h=>⟨ps,h,rfl⟩
theorem zCX {f:PV→PV}:∀ ps:List PV,(zCC f ps).length=ps.length
 | []=>rfl
 | p::ps=>by simp [zCC,zCX ps]
theorem zDV {f:PV→PV} (hf:∀ p,p.isWay=true→(f p).isTup=false) {p:PV} {ps:List PV} (h:p.mapW f = .tup ps):∃ ps',p = .tup ps'∧ps'.length=ps.length:=by
 cases hp:p.isWay with
 | true=>rw [zFZ hp] at h;have:=hf p hp;rw [h] at this;cases this
 | false =>
  cases p<;>first | (cases hp;done) | (simp [PV.mapW] at h;done) | skip
  simp only [PV.mapW,PV.tup.injEq] at h
  exact ⟨_,rfl,by rw [← h,zCX]⟩
theorem zIg (r:Nat) (pre:zAO) (p:PV) (hp:p.isWay=true):(lose r pre p).isTup=false:=by
 rcases zGu r pre p with h | ⟨_,h⟩
 ·rw [h];cases p<;>first | rfl | cases hp
 ·rw [h];rfl
theorem St.turn (S:St w0 U Φ0 nt hv a w e Φ rv E L) {w':World} {Φ':Nat→Prop} (hc:Conf w0 U Φ0 w' Φ' rv' E' L') (he:∀ s,s<zAb→E' s=e'.get s) (hr:∀ s,s<zAb→rv' s=rv s) (hE:zXo E E') :
  St w0 U Φ0 nt hv a w' e' Φ' rv' E' L':=by
 have hs:=S.small
 refine ⟨hc,he,S.size,S.small,fun t ht=>?_,fun d ps i hd hp hi=>?_,fun s h1 h2=>?_,S.dfr⟩
 ·rw [hr t (by simp only [zAb];omega)];exact S.tmps t ht
 ·obtain ⟨ps',h1,h2⟩:=hE d ps (by omega) hp
  obtain ⟨h3,vs,h4,h5⟩:=S.parts d ps' i hd h1 (by omega)
  refine ⟨h3,vs,?_,?_⟩
  ·rw [hr d (by simp only [zAb];omega)];exact h4
  ·rw [hr _ (by simp only [zBp,zAb];omega)];exact h5
 ·rw [hr s (by simp only [zAx,zAb] at *;omega)];exact S.hid s h1 h2
theorem zIU {A:Al} (v:Value):Rep w Φ A (zEq v) v []:=by
 have key:∀ cs:List Value,zAX w Φ A (cs.map fun | .int k n=>PV.int k n | .bool b => .bool b | _ => .bad) cs []:=by
  intro cs
  induction cs with
  | nil=>exact ⟨rfl,rfl⟩
  | cons c cs ih =>
   refine ⟨c,cs,[],[],rfl,rfl,?_,ih⟩
   cases c<;>first | exact ⟨rfl,rfl⟩ | rfl
 cases v with
 | slice x n c =>
  cases x with
  | some x=>cases n<;>cases c<;>rfl
  | none=>cases n<;>cases c<;>first | exact ⟨rfl,rfl⟩ | rfl
 | pointer x=>cases x<;>first | exact ⟨rfl,rfl⟩ | rfl
 | map x=>cases x<;>first | exact ⟨rfl,rfl⟩ | rfl
 | agg cs=>exact ⟨cs,rfl,key _⟩
 | _=>first | exact ⟨rfl,rfl⟩ | rfl
theorem zBo (S:St w0 U Φ0 nt hv a w e Φ rv E L) {x:Operand} (hx:zAL nt x=true) {k:PV→PM} (h:(opd x k).run o e=some e') :
  ∃ p,(k p).run o e=some e'∧Rep w Φ (zA1 w rv E) p (a.eval x) []:=by
 have hs:=S.small
 cases x with
 | tmp t =>
  have ht:=zBW hx
  have ye:(t:Nat)<zAb:=Nat.lt_of_lt_of_le ht (Nat.le_trans S.small (by decide))
  refine ⟨_,h,?_⟩
  have:=S.conf.view ye
  rw [S.env t ye] at this
  simp only [Act.eval]
  rw [S.tmps t ht];exact this
 | const v=>exact ⟨_,h,zIU v⟩
 | func f=>exact ⟨_,h,rfl,#[],#[],rfl,⟨rfl,rfl⟩,⟨rfl,rfl⟩⟩
 | global g=>cases h
theorem zHo (S:St w0 U Φ0 nt hv a w e Φ rv E L):∀ {xs:List Operand},(∀ x∈xs,zAL nt x=true)→∀ {k:List PV→PM},(zSv xs k).run o e=some e' →
  ∃ ps,(k ps).run o e=some e'∧zAX w Φ (zA1 w rv E) ps (xs.map a.eval) []
 | [],_,k,h=>⟨[],h,rfl,rfl⟩
 | x::xs,hx,k,h=>by
  obtain ⟨p,h1,h2⟩:=zBo S (hx x (by simp)) h
  obtain ⟨ps,h3,h4⟩:=zHo S (fun y hy=>hx y (by simp [hy])) h1
  exact ⟨p::ps,h3,_,_,[],[],rfl,rfl,h2,h4⟩
def zV1 (g:Nat) (rv rv':Nat→Value) (E E':Nat→PV) (L L':Nat→List Nat):Prop:=∀ s,zAb≤s→s≠g→E' s=E s∧rv' s=rv s∧L' s=L s
theorem St.hold (S:St w0 U Φ0 nt hv a w e Φ rv E L) {g:Nat} (hg:zAb≤g) {p:PV} {v:Value} (hr:Rep w Φ (zA1 w rv E) p v []):St w0 U Φ0 nt hv a w e Φ (upd rv g v) (upd E g p) (upd L g []):=by
 refine S.turn (S.conf.hold hg hr) (fun s hs=>?_) (fun s hs=>zAg (by omega)) fun d ps hd hp=>?_
 ·rw [zAg (by omega)];exact S.env s hs
 ·rw [zAg (by simp only [zAb] at hg;omega)] at hp;exact ⟨ps,hp,rfl⟩
theorem zGm (S:St w0 U Φ0 nt hv a w e Φ rv E L) {x:Operand} (hx:zAL nt x=true) {g:Nat} (hg:zAb≤g) {k:PV→PM} (h:(zO9 x k).run o e=some e') :
  ∃ e1 rv1 E1 L1,(k (E1 g)).run o e1=some e'∧St w0 U Φ0 nt hv a w e1 Φ rv1 E1 L1∧rv1 g=a.eval x∧zV1 g rv rv1 E E1 L L1:=by
 have jv:=S.small
 have light:∀ p,(k p).run o e=some e'→Rep w Φ (zA1 w rv E) p (a.eval x) []→∃ e1 rv1 E1 L1,(k (E1 g)).run o e1=some e'∧St w0 U Φ0 nt hv a w e1 Φ rv1 E1 L1∧rv1 g=a.eval x∧zV1 g rv rv1 E E1 L L1:=by
  intro p h hr
  refine ⟨e,_,_,_,?_,S.hold hg hr,zAj,fun s _ hI=>⟨zAg hI,zAg hI,zAg hI⟩⟩
  rw [zAj];exact h
 cases x with
 | tmp t =>
  have ht:=zBW hx
  have ye:(t:Nat)<zAb:=Nat.lt_of_lt_of_le ht (Nat.le_trans S.small (by decide))
  have hX:=S.conf.rep t
  rw [S.env t ye] at hX
  have kF:a.eval (.tmp t)=rv t:=S.tmps t ht
  simp only [zO9,PM.run] at h
  split at h
  ·cases h
  ·rename_i p _
   split at h
   ·rename_i hh
    simp only [PM.run] at h
    refine ⟨_,_,_,_,?_,S.turn (e':=e.set t .bad) (S.conf.take ye hg) (fun s hs=>?_) (fun s hs=>zAg (by omega)) (fun d ps hd hp=>?_),by rw [zAj,kF],fun s h1 h2=>?_⟩
    ·rw [zAj,S.env t ye];exact h
    ·rw [zAg (by omega),Env.get_set]
     by_cases h2:s=t
     ·subst h2;rw [zAj,if_pos rfl]
     ·rw [zAg h2,if_neg h2];exact S.env s hs
    ·rw [zAg (by simp only [zAb] at hg;omega)] at hp
     by_cases h2:d=t
     ·subst h2;rw [zAj] at hp;cases hp
     ·rw [zAg h2] at hp;exact ⟨ps,hp,rfl⟩
    ·have h3:s≠t:=by intro h;subst h;exact absurd ye (Nat.not_lt.2 h1)
     rw [zAg h2,zAg h2,zAg h2,zAg h3,zAg h3];exact ⟨rfl,rfl,rfl⟩
   ·rename_i hh
    simp only [Bool.not_eq_true] at hh
    have hL:=zC9 _ _ _ hh hX
    rw [hL] at hX
    exact light _ h (by rw [kF];exact hX)
 | const v=>exact light _ h (zIU v)
 | func f=>exact light _ h ⟨rfl,#[],#[],rfl,⟨rfl,rfl⟩,⟨rfl,rfl⟩⟩
 | global g=>cases h
theorem zQS (S:St w0 U Φ0 nt hv a w e Φ rv E L) {d g:Nat} (uf:d<zAb) (hg:zAb≤g) {k:PM} (h:(lay d (E g) k).run o e=some e') :
  ∃ e1 E1 L1,k.run o e1=some e'∧Conf w0 U Φ0 w Φ (upd rv d (rv g)) E1 L1∧(∀ s,s<zAb→E1 s=e1.get s)∧(∀ s,s≠d→s<zAb→E1 s=E s∨E1 s=(E s).mapW (lose d [])) ∧
   (E1 d=E g∨E1 d=(E g).mapW (lose d []))∧E1 g = .bad∧∀ s,zAb≤s→s≠g→E1 s=E s∨E1 s=(E s).mapW (lose d []):=by
 have vF:d≠g:=by omega
 simp only [lay] at h
 cases hh:(E g).heavy with
 | true =>
  rw [hh] at h;simp only [cond_true,PM.run] at h
  refine ⟨_,_,_,h,S.conf.lay uf hg,fun s hs=>?_,fun s hs uR => .inr ?_,.inr ?_,zAj,fun s h1 h2 => .inr ?_⟩
  ·rw [zAg (by omega),Env.get_set,Env.get_kill]
   by_cases h2:s=d
   ·subst h2;rw [zAj,if_pos rfl]
   ·rw [zAg h2,if_neg h2,S.env s hs]
  ·rw [zAg (by omega),zAg hs]
  ·rw [zAg (by omega),zAj]
  ·rw [zAg h2,zAg (by omega)]
 | false =>
  rw [hh] at h;simp only [cond_false,PM.run] at h
  have hX:=S.conf.rep g
  rw [zC9 _ _ _ hh hX] at hX
  have h1:=S.conf.put (s:=d) hh hX
  have h2:=h1.drop fun s=>s==g
  refine ⟨_,_,_,h,h2,fun s hs=>?_,fun s hs uR => .inl ?_,.inl ?_,by simp,fun s h1 h2 => .inl ?_⟩
  ·rw [Env.get_set]
   have:(s==g)=false:=by simp;omega
   simp only [this,Bool.false_eq_true,if_false]
   by_cases h2:s=d
   ·subst h2;rw [zAj,if_pos rfl]
   ·rw [zAg h2,if_neg h2,S.env s hs]
  ·have:(s==g)=false:=by simp;omega
   simp [this,zAg hs]
  ·have:(d==g)=false:=by simp;omega
   simp [this,zAj]
  ·have:(s==g)=false:=by simp [h2]
   simp [this,zAg (show s≠d by omega)]
theorem zUf (S:St w0 U Φ0 nt hv a w e Φ rv E L) {d g:Nat} (hd:d<zAm) (hg:zAb≤g) {k:PM} (h:(lay d (E g) k).run o e=some e') :
  ∃ e1 E1 L1,k.run o e1=some e'∧Conf w0 U Φ0 w Φ (upd rv d (rv g)) E1 L1∧(∀ s,s<zAb→E1 s=e1.get s)∧(∀ s,s≠d→s<zAb→E1 s=E s∨E1 s=(E s).mapW (lose d [])) ∧
   (E1 d=E g∨E1 d=(E g).mapW (lose d []))∧E1 g = .bad∧∀ s,zAb≤s→s≠g→E1 s=E s∨E1 s=(E s).mapW (lose d []) :=
 zQS S (by simp only [zAm,zAb] at *;omega) hg h
theorem Act.put_tmps (a:Act) {d:Nat} {v:Value} (hd:d<a.tmps.size) (t:Nat):(a.put (some d) v).tmps.getD t undef=if t=d then v else a.tmps.getD t undef:=by
 simp only [Act.put,Array.getD_eq_getD_getElem?,Array.getElem?_setIfInBounds]
 by_cases h:t=d
 ·subst h;simp [hd]
 ·rw [if_neg (Ne.symm h),if_neg h]
theorem zFw (S:St w0 U Φ0 nt hv a w e Φ rv E L) {d:Option Nat} (hd:∀ x,d=some x→x<nt) {g:Nat} (hg:zAb≤g) (h:(put d (E g)).run o e=some e') (hb:∀ s,zAb≤s→s≠g→E s = .bad) :
  Fr w0 U Φ0 nt hv (a.put d (rv g)) w e':=by
 have jv:=S.small
 cases d with
 | none =>
  simp only [put,PM.run,Option.some.injEq] at h;subst h
  have h2:=S.conf.drop fun s=>s==g
  refine ⟨_,_,_,_,S.turn h2 (fun s hs=>?_) (fun _ _=>rfl) (fun d ps hd hp=>?_),fun s hs=>?_⟩
  ·have:(s==g)=false:=by simp;omega
   simp only [this,Bool.false_eq_true,if_false];exact S.env s hs
  ·have:(d==g)=false:=by simp only [zAb] at hg;simp;omega
   simp only [this,Bool.false_eq_true,if_false] at hp;exact ⟨ps,hp,rfl⟩
  ·by_cases h3:s=g
   ·subst h3;simp
   ·have:(s==g)=false:=by simp [h3]
    simp only [this,Bool.false_eq_true,if_false];exact hb s hs h3
 | some d =>
  have uK:=hd d rfl
  have hds:d<a.tmps.size:=by rw [S.size];exact uK
  simp only [put] at h
  cases ht:(E g).isTup with
  | true=>rw [ht] at h;cases h
  | false =>
   rw [ht] at h;simp only [cond_false] at h
   obtain ⟨e1,E1,L1,h1,h2,h3,h4,h5,h6,h7⟩:=zUf S (by simp only [zAm];omega) hg h
   simp only [PM.run,Option.some.injEq] at h1;subst h1
   refine ⟨_,_,_,_,⟨h2,h3,by simp only [Act.put,Array.size_setIfInBounds];exact S.size,S.small,fun t gi=>?_,fun d' ps i wQ hp hi=>?_,fun s ui uR=>?_,S.dfr⟩,fun s hs=>?_⟩
   ·rw [Act.put_tmps a hds]
    by_cases vg:t=d
    ·subst vg;simp [zAj]
    ·rw [if_neg vg,zAg vg];exact S.tmps t gi
   ·have vF:d'≠d:=by
     intro hc;subst hc
     rcases h5 with h5 | h5
     ·rw [h5] at hp;rw [hp] at ht;cases ht
     ·rw [h5] at hp
      obtain ⟨ps',h8,_⟩:=zDV (zIg d' []) hp
      rw [h8] at ht;cases ht
    have:∃ ps',E d' = .tup ps'∧ps'.length=ps.length:=by
     rcases h4 d' vF (by simp only [zAb];omega) with h8 | h8
     ·exact ⟨ps,by rw [← h8,hp],rfl⟩
     ·rw [h8] at hp;exact zDV (zIg d []) hp
    obtain ⟨ps',h8,h9⟩:=this
    obtain ⟨jQ,vs,vG,h12⟩:=S.parts d' ps' i wQ h8 (by omega)
    exact ⟨jQ,vs,by rw [zAg vF];exact vG,by rw [zAg (by simp only [zBp];omega)];exact h12⟩
   ·rw [zAg (by simp only [zAm] at ui;omega)];exact S.hid s ui uR
   ·by_cases h8:s=g
    ·subst h8;exact h6
    ·rcases h7 s hs h8 with h9 | h9
     ·rw [h9];exact hb s hs h8
     ·rw [h9,hb s hs h8];rfl
end
end Go.Eng
namespace Go.Eng
open Go
theorem zBz {α:Type} {x:Option α} {k:α→PM} {o:zAC} {e e':Env} (h:(zIb x k).run o e=some e'):∃ a,x=some a∧(k a).run o e=some e':=by
 cases x with
 | none=>cases h
 | some a=>exact ⟨a,rfl,h⟩
theorem zDZ {p:PV} {k:Nat→PM} {o:zAC} {e e':Env} (h:(zGf p k).run o e=some e'):∃ ik n,p = .int ik n∧0≤n∧(k n.toNat).run o e=some e':=by
 cases p<;>try (cases h;done)
 rename_i ik n
 simp only [zGf] at h
 split at h
 ·exact ⟨ik,n,rfl,‹_›,h⟩
 ·cases h
theorem zDe {c:Prop} [Decidable c] {k:PM} {o:zAC} {e e':Env} (h:(if c then k else .fail).run o e=some e'):c∧k.run o e=some e':=by
 split at h
 ·exact ⟨‹_›,h⟩
 ·cases h
theorem zAF {c:Bool} {k:PM} {o:zAC} {e e':Env} (h:(bif c then k else .fail).run o e=some e'):c=true∧k.run o e=some e':=by
 cases c
 ·cases h
 ·exact ⟨rfl,h⟩
section
variable {P:Program} {w0 w:World} {U Φ0 Φ:Nat→Prop} {nt:Nat} {hv:Hid} {a:Act} {e e':Env} {rv rv':Nat→Value} {E E':Nat→PV} {L L':Nat→List Nat} {o:zAC} {A:Al}
def zBk (E:Nat→PV):Prop:=∀ g,zAb≤g→E g = .bad
theorem zAu (S:St w0 U Φ0 nt hv a w e Φ rv E L) (hb:zBk E) {d:Option Nat} (hd:∀ x,d=some x→x<nt) {p:PV} {v:Value} (h:(put d p).run o e=some e') (hr:Rep w Φ (zA1 w rv E) p v []) :
  Fr w0 U Φ0 nt hv (a.put d v) w e':=by
 have:=zFw (S.hold (Nat.le_refl zAb) hr) hd (Nat.le_refl zAb) (by rw [zAj];exact h) (fun s hs hI=>by rw [zAg hI];exact hb s hs)
 rwa [zAj] at this
theorem zVe (S:St w0 U Φ0 nt hv a w e Φ rv E L) (hb:zBk E) {d:Option Nat} (hd:∀ x,d=some x→x<nt) {c x y:Operand} (hc:zAL nt c=true) (hx:zAL nt x=true) (hy:zAL nt y=true)
  (h:(zT2 d c x y).run o e=some e'):∃ t,a.eval c = .bool t∧Fr w0 U Φ0 nt hv (a.put d (if t then a.eval x else a.eval y)) w e':=by
 obtain ⟨p,h1,h2⟩:=zBo S hc h
 cases p<;>simp only [zT1] at h1<;>try (cases h1;done)
 rename_i t
 refine ⟨t,h2.1,?_⟩
 cases t
 ·obtain ⟨q,h3,h4⟩:=zBo S hy h1;exact zAu S hb hd h3 h4
 ·obtain ⟨q,h3,h4⟩:=zBo S hx h1;exact zAu S hb hd h3 h4
theorem zWr (S:St w0 U Φ0 nt hv a w e Φ rv E L) (hb:zBk E) {d:Option Nat} (hd:∀ x,d=some x→x<nt) {x:Operand} (hx:zAL nt x=true) (h:(opd x (zYx d)).run o e=some e') :
  (match a.eval x with | .pointer none | .nilIface | .nilFunc | .func (.method _) _ _=>False | _=>True)∧Fr w0 U Φ0 nt hv (a.put d (a.eval x)) w e':=by
 obtain ⟨p,h1,h2⟩:=zBo S hx h
 cases p<;>simp only [zYx] at h1<;>try (cases h1;done)
 case ref q=>refine ⟨?_,zAu S hb hd h1 h2⟩;obtain ⟨_,b,c,u,h3,_⟩:=h2;rw [h3];trivial
 case func=>refine ⟨?_,zAu S hb hd h1 h2⟩;obtain ⟨_,fs,cs,h3,_⟩:=h2;rw [h3];trivial
 case addr=>refine ⟨?_,zAu S hb hd h1 h2⟩;obtain ⟨_,_,b,h3,_⟩:=h2;rw [h3];trivial
 case yld=>refine ⟨?_,zAu S hb hd h1 h2⟩;rw [h2.2];trivial
theorem zYt (S:St w0 U Φ0 nt hv a w e Φ rv E L) (hb:zBk E) {d:Option Nat} (hd:∀ x,d=some x→x<nt) {op:UnOp} {x:Operand} (hx:zAL nt x=true) (h:(opd x (unV d op)).run o e=some e') :
  ∃ v,(Op.unary op (a.eval x)).run P w = .ok v w∧Fr w0 U Φ0 nt hv (a.put d v) w e':=by
 obtain ⟨p,h1,h2⟩:=zBo S hx h
 simp only [unV] at h1
 split at h1
 ·rename_i b;exact ⟨.bool !b,by rw [h2.1];rfl,zAu S hb hd h1 ⟨rfl,rfl⟩⟩
 ·rename_i k n;exact ⟨.int k (k.wrap (0-n)),by rw [h2.1];rfl,zAu S hb hd h1 ⟨rfl,rfl⟩⟩
 ·cases h1
theorem zVK (S:St w0 U Φ0 nt hv a w e Φ rv E L) (hb:zBk E) {d:Option Nat} (hd:∀ x,d=some x→x<nt) {s t:TypeId} (hs:(P.underlying s).isSome=true) {x:Operand} (hx:zAL nt x=true) (h:(opd x (zQb P d t)).run o e=some e') :
  ∃ v,(convert s t (a.eval x)).run P w = .ok v w∧Fr w0 U Φ0 nt hv (a.put d v) w e':=by
 obtain ⟨p,h1,h2⟩:=zBo S hx h
 simp only [zQb] at h1
 split at h1
 ·rename_i k k' n ht
  refine ⟨.int k (k.wrap n),?_,zAu S hb hd h1 ⟨rfl,rfl⟩⟩
  obtain ⟨ds,hds⟩:=Option.isSome_iff_exists.1 hs
  rw [h2.1]
  simp only [convert,Sem.run_bind,run_underlying ht,run_underlying hds,Result.andThen_ok]
  rfl
 ·cases h1
theorem zVl (S:St w0 U Φ0 nt hv a w e Φ rv E L) (hb:zBk E) {d:Option Nat} (hd:∀ x,d=some x→x<nt) {f:FuncId} {fs cs:Array Operand} (hf:∀ x∈fs.toList,zAL nt x=true) (hc:∀ x∈cs.toList,zAL nt x=true)
  (h:(zKj d f fs.toList cs.toList).run o e=some e'):Fr w0 U Φ0 nt hv (a.put d (.func (.func f) (fs.map a.eval) (cs.map a.eval))) w e':=by
 obtain ⟨ps,h1,h2⟩:=zHo S hf h
 obtain ⟨qs,h3,h4⟩:=zHo S hc h1
 exact zAu S hb hd h3 ⟨rfl,_,_,rfl,by simpa using h2,by simpa using h4⟩
theorem zEZ {t:TypeId} {sh:Option Nat} (h:shT P t=some sh):∃ i,P.info? t=some i∧(isAgg t).run P w = .ok sh.isSome w∧(∀ n,sh=some n→n=i.size)∧(sh=none→i.size=1):=by
 simp only [shT] at h
 cases hu:P.underlying t with
 | none=>rw [hu] at h;cases h
 | some td =>
  have hr:=run_underlying (w:=w) hu
  cases hi:P.info? t with
  | none=>rw [hu,hi] at h;cases td<;>cases h
  | some i =>
   rw [hu,hi] at h
   refine ⟨i,rfl,?_⟩
   cases td<;>simp only at h<;>first | (cases h;exact ⟨by simp only [isAgg,Sem.run_bind,hr,Result.andThen_ok];rfl,fun n hn=>by cases hn;rfl,fun hn=>by cases hn⟩) | skip
   all_goals
    split at h
    ·rename_i h1
     cases h;exact ⟨by simp only [isAgg,Sem.run_bind,hr,Result.andThen_ok];rfl,(by intro n hn;cases hn),fun _=>h1⟩
    ·cases h
theorem zAV {t:TypeId} {i:TypeInfo} (h:P.info? t=some i):(sizeOf t).run P w = .ok i.size w:=by
 simp [sizeOf,typeInfo,h]
theorem zFh {t:TypeId} {sh:Option Nat} (hs:shT P t=some sh) {p q:PV} {cs:Array Value} {off:Nat} (hp:Rep w Φ A p (.agg cs) []) (h:sub p off sh=some q) :
  ∃ u,(part t cs off).run P w = .ok u w∧Rep w Φ A q u []:=by
 obtain ⟨i,hi,yq,h1,h2⟩:=zEZ (w:=w) hs
 cases p<;>try (cases sh<;>cases h;done)
 rename_i ps
 obtain ⟨vs,hv,hr⟩:=hp
 cases hv
 have hZ:=hr.length
 cases sh with
 | some n =>
  simp only [sub] at h
  split at h
  ·rename_i yP
   cases h
   have hn:=h1 n rfl;subst hn
   refine ⟨.agg (cs.extract off (off+i.size)),?_,?_⟩
   ·simp only [part,Sem.run_bind,yq,Result.andThen_ok,Option.isSome_some,if_true,zAV hi];rfl
   ·refine ⟨_,rfl,?_⟩
    rw [Array.toList_extract]
    have:=zBO hr off i.size
    simpa [List.extract] using this
  ·cases h
 | none =>
  simp only [sub] at h
  obtain ⟨u,La,Li,Lb,hu,hL,kf,_,_⟩:=hr.split h
  have hu':cs[off]? = some u:=by simpa using hu
  have:Li=[]:=by
   have:=congrArg List.length hL;simp at this
   exact List.eq_nil_of_length_eq_zero (by omega)
  subst this
  refine ⟨u,?_,kf⟩
  simp only [part,Sem.run_bind,yq,Result.andThen_ok,Option.isSome_none,Bool.false_eq_true,if_false,hu']
  rfl
theorem zM6 {eq:TypeId→PV→PV→Option Bool} {d:Nat} {p q:PV} {xs ys:Array Value} (hp:Rep w Φ A p (.agg xs) []) (hq:Rep w Φ A q (.agg ys) [])
  (hd:∀ t p q b x y,eq t p q=some b→Rep w Φ A p x []→Rep w Φ A q y []→(Op.equalIn d t x y).run P w = .ok b w) :
  ∀ (fs:List Field) (b:Bool),zT0 eq (shT P) p q fs=some b→(Op.eqFields d xs ys fs).run P w = .ok b w
 | [],b,h=>by simp only [zT0,Option.some.injEq] at h;subst h;rfl
 | f :: fs,b,h=>by
  simp only [zT0] at h
  simp only [Op.eqFields]
  split at h
  ·rename_i hn
   rw [if_neg (by simp [hn])]
   exact zM6 hp hq hd fs b h
  ·rename_i hn
   rw [if_pos hn]
   cases hs:shT P f.type with
   | none=>rw [hs] at h;cases h
   | some sh =>
    rw [hs] at h;simp only at h
    split at h
    ·rename_i a1 b1 h1 h2
     obtain ⟨u1,h3,h4⟩:=zFh hs hp h1
     obtain ⟨u2,h5,h6⟩:=zFh hs hq h2
     simp only [Sem.run_bind,h3,h5,Result.andThen_ok]
     cases he:eq f.type a1 b1 with
     | none=>rw [he] at h;cases h
     | some r =>
      rw [hd _ _ _ _ _ _ he h4 h6]
      rw [he] at h
      simp only [Result.andThen_ok]
      cases r with
      | true =>
       simp only [Bool.not_true,Bool.false_eq_true,if_false]
       exact zM6 hp hq hd fs b h
      | false =>
       simp only [Option.some.injEq] at h;subst h
       simp
    ·cases h
theorem zRM {eq:PV→PV→Option Bool} {d:Nat} {e:TypeId} {sh:Option Nat} {i:TypeInfo} (hs:shT P e=some sh) (hi:P.info? e=some i) {p q:PV} {xs ys:Array Value} (hp:Rep w Φ A p (.agg xs) []) (hq:Rep w Φ A q (.agg ys) [])
  (hd:∀ p q b x y,eq p q=some b→Rep w Φ A p x []→Rep w Φ A q y []→(Op.equalIn d e x y).run P w = .ok b w) :
  ∀ (n k:Nat) (b:Bool),zT8 eq sh i.size p q k n=some b →
   ((forIn (List.range' k n 1) ((none,()):Option Bool×Unit) fun i' r=>do
    let a ← part e xs (i'*i.size)
    let c ← part e ys (i'*i.size)
    if !(← Op.equalIn d e a c) then pure (.done (some false,())) else pure (.yield (none,()))):Sem _).run P w = .ok (if b then (none,()) else (some false,())) w
 | 0,k,b,h=>by simp only [zT8,Option.some.injEq] at h;subst h;simp
 | n + 1,k,b,h=>by
  simp only [zT8] at h
  simp only [List.range'_succ,List.forIn_cons,Sem.run_bind]
  split at h
  ·rename_i a1 b1 h1 h2
   obtain ⟨u1,h3,h4⟩:=zFh hs hp h1
   obtain ⟨u2,h5,h6⟩:=zFh hs hq h2
   simp only [h3,h5,Result.andThen_ok]
   cases he:eq a1 b1 with
   | none=>rw [he] at h;cases h
   | some r =>
    rw [hd _ _ _ _ _ he h4 h6]
    rw [he] at h
    simp only [Result.andThen_ok]
    cases r with
    | true =>
     simp only [Bool.not_true,Bool.false_eq_true,if_false,Sem.run_pure,Result.andThen_ok]
     exact zRM hs hi hp hq hd n (k+1) b h
    | false =>
     simp only [Option.some.injEq] at h;subst h
     simp
  ·cases h
theorem zKs:∀ (n:Nat) (t:TypeId) (p q:PV) (b:Bool) (x y:Value) (d:Nat),n≤d→eqT P n t p q=some b→Rep w Φ A p x []→Rep w Φ A q y []→(Op.equalIn d t x y).run P w = .ok b w
 | 0,t,p,q,b,x,y,d,hd,h,hp,hq=>by cases h
 | n+1,t,p,q,b,x,y,0,hd,h,hp,hq=>by omega
 | n + 1,t,p,q,b,x,y,d+1,hd,h,hp,hq=>by
  have yP:n≤d:=by omega
  simp only [eqT] at h
  split at h
  ·rename_i k0 k a1 k' b1 ht
   rw [hp.1,hq.1]
   split at h
   ·rename_i hk;subst hk
    cases h;exact run_equalIn_int w d t k k0 a1 b1 ht
   ·cases h
  ·rename_i a1 b1 ht
   rw [hp.1,hq.1];cases h
   exact run_equalIn_bool' w d t a1 b1 ht
  ·rename_i el ht
   rw [hp.1,hq.1];cases h
   simp [Op.equalIn,run_underlying ht]
  ·rename_i fs xs ys ht
   cases yK:P.stoodInHeld t with
   | true=>rw [yK] at h;cases h
   | false =>
    rw [yK] at h;simp only [cond_false] at h
    obtain ⟨vs,rfl,jf⟩:=hp
    obtain ⟨us,rfl,jc⟩:=hq
    have wg:P.fieldsOf t=fs:=by simp [Program.fieldsOf,ht]
    rw [run_equalIn_struct w d t vs us (by rw [wg];exact ht) yK,wg]
    exact zM6 (p := .agg xs) (q := .agg ys) ⟨vs,rfl,jf⟩ ⟨us,rfl,jc⟩ (fun t p q b x y he h1 h2=>zKs n t p q b x y d yP he h1 h2) fs.toList b h
  ·rename_i len el xs ys ht
   split at h
   ·rename_i sz sh yE j5
    obtain ⟨vs,rfl,jf⟩:=hp
    obtain ⟨us,rfl,jc⟩:=hq
    obtain ⟨i,hi,_⟩:=zEZ (w:=w) j5
    have qq:i.size=sz:=by simp only [szT,hi,Option.map_some,Option.some.injEq] at yE;exact yE
    subst qq
    have:=zRM (p := .agg xs) (q := .agg ys) j5 hi ⟨vs,rfl,jf⟩ ⟨us,rfl,jc⟩ (fun p q b x y he h1 h2=>zKs n el p q b x y d yP he h1 h2) len 0 b h
    simp only [Op.equalIn,Sem.run_bind,run_underlying ht,Result.andThen_ok,zAV hi,Std.Legacy.Range.forIn_eq_forIn_range',Std.Legacy.Range.size,Nat.sub_zero,Nat.add_sub_cancel,Nat.div_one]
    rw [this]
    cases b<;>simp
   ·cases h
  ·cases h
theorem zTF {n:Nat} {t:TypeId} {p q:PV} {b:Bool} (h:eqT P n t p q=some b) (ha:p.isAgg=false):(∃ k n k' m,p = .int k n∧q = .int k' m)∨(∃ b,p = .bool b)∨p = .nilp:=by
 cases n with
 | zero=>cases h
 | succ n =>
  simp only [eqT] at h
  split at h
  ·exact .inl ⟨_,_,_,_,rfl,rfl⟩
  ·exact .inr (.inl ⟨_,rfl⟩)
  ·exact .inr (.inr rfl)
  ·cases ha
  ·cases ha
  ·cases h
theorem zTr {t:TypeId} {p q:PV} (hn:∀ z,q ≠ .nils z) (ha:∀ ys,q ≠ .agg ys):eqV P t p q=bif p.isAgg then none else eqT P 20 t p q:=by
 cases q<;>first | rfl | exact absurd rfl (hn _) | exact absurd rfl (ha _)
def zY5:Value→Bool
 | .bool _ | .pointer _ | .slice .. | .agg _=>true
 | _=>false
theorem zRl {t:TypeId} {x y:Value} {b:Bool} (hx:zY5 x=true) (h:(Op.equal t x y).run P w = .ok b w):(binOp .eql t x y).run P w = .ok (.bool b) w∧(binOp .neq t x y).run P w = .ok (.bool !b) w:=by
 have h1:binOp .eql t x y=(do pure (.bool (← Op.equal t x y))):=by cases x<;>first | (cases hx;done) | rfl
 have h2:binOp .neq t x y=(do pure (.bool (!(← Op.equal t x y)))):=by cases x<;>first | (cases hx;done) | rfl
 rw [h1,h2]
 simp only [Sem.run_bind,h,Result.andThen_ok]
 exact ⟨rfl,rfl⟩
theorem zSz {t:TypeId} {p:PV} {z:Nat} {b:Bool} {x:Value} (h:eqV P t p (.nils z)=some b) (hA:∀ a v,a.isWay=true→A a v→∀ r pre z lo n,a = .bor r pre z lo n→∃ b c,v = .slice b n c∧n≤c∧(b=none→c=0))
  (hp:Rep w Φ A p x []):(∃ a n c,x = .slice a n c)∧(Op.equal t x (.slice none 0 0)).run P w = .ok b w:=by
 cases ht:P.underlying t with
 | none=>simp [eqV,ht] at h
 | some td =>
 by_cases jZ:∃ e,td = .slice e
 ·obtain ⟨e,rfl⟩:=jZ
  by_cases gj:∃ z',p = .nils z'
  ·obtain ⟨z',rfl⟩:=gj
   simp only [eqV,ht,Option.some.injEq] at h
   subst h
   rw [hp.1]
   exact ⟨⟨_,_,_,rfl⟩,run_equal_slice_nil w t e none 0 0 ht⟩
  have hh:(bif zE2 p then some false else none)=some b:=by
   rw [← h]
   cases p<;>first | (simp only [eqV,ht];done) | exact absurd ⟨_,rfl⟩ gj
  have key:∀ a n c,x = .slice (some a) n c→b=false→(∃ a n c,x = .slice a n c)∧(Op.equal t x (.slice none 0 0)).run P w = .ok b w:=by
   intro a n c hx hb
   subst hx;subst hb
   exact ⟨⟨_,_,_,rfl⟩,run_equal_slice_nil w t e (some a) n c ht⟩
  cases j9:zE2 p with
  | false=>rw [j9] at hh;cases hh
  | true =>
   rw [j9] at hh;simp only [cond_true,Option.some.injEq] at hh
   cases p<;>simp only [zE2] at j9<;>try (cases j9;done)
   case nn =>
    obtain ⟨_,a,n,h1⟩:=hp
    exact key a 0 n h1 hh.symm
   case sl xs =>
    cases xs with
    | nil=>cases j9
    | cons x0 xs =>
     obtain ⟨_,⟨h1,_⟩ | ⟨a,n,c,us,sz,h1,_⟩⟩:=hp
     ·cases h1
     ·exact key a _ n h1 hh.symm
   case own sz xs =>
    cases xs with
    | nil=>cases j9
    | cons x0 xs =>
     obtain ⟨h1,_⟩ | ⟨a,n,c,us,L',h0,_⟩:=hp
     ·cases h1
     ·cases h0
   case bor r pre z lo n =>
    cases n with
    | zero=>cases j9
    | succ n =>
     obtain ⟨b',c,h1,h2,h3⟩:=hA _ _ rfl hp.2 r pre z lo (n+1) rfl
     cases b' with
     | none=>have:=h3 rfl;omega
     | some a=>exact key a _ c h1 hh.symm
 ·cases td<;>first | exact absurd ⟨_,rfl⟩ jZ | simp [eqV,ht] at h
theorem zT5 {t:TypeId} {p q:PV} {b:Bool} {x y:Value} (h:eqV P t p q=some b) (hA:∀ a v,a.isWay=true→A a v→∀ r pre z lo n,a = .bor r pre z lo n→∃ b c,v = .slice b n c∧n≤c∧(b=none→c=0))
  (hp:Rep w Φ A p x []) (hq:Rep w Φ A q y []) (hni:∀ k n k' m,p = .int k n→q = .int k' m→False) (op:BinOp) (xo yo:Operand) :
  (eqGuard op t xo yo x y).run P w = .ok () w∧(Op.equal t x y).run P w = .ok b w∧zY5 x=true:=by
 by_cases hn:∃ z,q = .nils z
 ·obtain ⟨z,rfl⟩:=hn
  have hy:y = .slice none 0 0:=hq.1
  subst hy
  obtain ⟨⟨a,n,c,rfl⟩,h2⟩:=zSz h hA hp
  exact ⟨by rw [eqGuard_at_slice];rfl,h2,rfl⟩
 ·by_cases ha:∃ ys,q = .agg ys
  ·obtain ⟨ys,rfl⟩:=ha
   simp only [eqV] at h
   split at h
   ·rename_i xs
    cases hg:P.eqGuardType P.depth t with
    | true=>rw [hg] at h;cases h
    | false =>
     rw [hg] at h;simp only [cond_false] at h
     have:=zKs 20 t _ _ b x y 10000 (by decide) h hp hq
     obtain ⟨vs,rfl,_⟩:=hp
     obtain ⟨us,rfl,_⟩:=hq
     exact ⟨run_eqGuard_agg w op t xo yo vs us hg,this,rfl⟩
   ·cases h
  ·rw [zTr (fun z hz=>hn ⟨z,hz⟩) (fun ys hy=>ha ⟨ys,hy⟩)] at h
   cases vh:p.isAgg with
   | true=>rw [vh] at h;cases h
   | false =>
    rw [vh] at h;simp only [cond_false] at h
    have h2:=zKs 20 t _ _ b x y 10000 (by decide) h hp hq
    rcases zTF h vh with ⟨k,n,k',m,h3,h4⟩ | ⟨b',h3⟩ | h3
    ·exact absurd h4 fun h4=>hni k n k' m h3 h4
    ·subst h3;have hx:x = .bool b':=hp.1
     subst hx;exact ⟨by rw [eqGuard_at_bool];rfl,h2,rfl⟩
    ·subst h3;have hx:x = .pointer none:=hp.1
     subst hx;exact ⟨by rw [eqGuard_at_pointer];rfl,h2,rfl⟩
theorem zUa:∀ a v,a.isWay=true→zA1 w rv E a v→∀ r pre z lo n,a = .bor r pre z lo n→∃ b c,v = .slice b n c∧n≤c∧(b=none→c=0):=by
 intro a v _ h r pre z lo n ha
 subst ha
 obtain ⟨_,⟨b,c,h1,h2,h3,_⟩,_⟩:=h
 exact ⟨b,c,h1,h2,h3⟩
theorem zTK {op:BinOp} {t:TypeId} {k:IntKind} {x y:Int} {r:PV} (h:zUQ op k x y=some r) (hs:op ≠ .shl∧op ≠ .shr):∃ v,(binOp op t (.int k x) (.int k y)).run P w = .ok v w∧Rep w Φ A r v []:=by
  cases op<;>simp only [zUQ] at h<;>try (cases h;done)
  case quo => split at h
              · cases h
              · rename_i hy;cases h;exact ⟨.int k (k.wrap (x.tdiv y)),by simp [binOp,Op.intDiv,hy],rfl,rfl⟩
  case rem => split at h
              · cases h
              · rename_i hy;cases h;exact ⟨.int k (x.tmod y),by simp [binOp,Op.intDiv,hy],rfl,rfl⟩
  all_goals
    simp only [Option.some.injEq] at h
    subst h
    first
    | exact ⟨_,by simp [binOp,Op.intArith];rfl,rfl,rfl⟩
    | exact ⟨_,by simp [binOp,Op.intCmp];rfl,rfl,rfl⟩
    | exact ⟨_,by simp [binOp,Op.intBits];rfl,rfl,rfl⟩
theorem zXc (S:St w0 U Φ0 nt hv a w e Φ rv E L) (hb:zBk E) {d:Option Nat} (hd:∀ x,d=some x→x<nt) {op:BinOp} {t:TypeId} {x y:Operand} (hx:zAL nt x=true) (hy:zAL nt y=true) (h:(zTd P d op t x y).run o e=some e') :
  ∃ v,(do eqGuard op t x y (a.eval x) (a.eval y);binOp op t (a.eval x) (a.eval y)).run P w = .ok v w∧Fr w0 U Φ0 nt hv (a.put d v) w e':=by
 obtain ⟨p,h1,hp⟩:=zBo S hx h
 obtain ⟨q,h2,hq⟩:=zBo S hy h1
 obtain ⟨r,h3,h4⟩:=zBz h2
 have fin:∀ v,(eqGuard op t x y (a.eval x) (a.eval y)).run P w = .ok () w→(binOp op t (a.eval x) (a.eval y)).run P w = .ok v w→Rep w Φ (zA1 w rv E) r v []→∃ v,(do eqGuard op t x y (a.eval x) (a.eval y);binOp op t (a.eval x) (a.eval y)).run P w = .ok v w∧Fr w0 U Φ0 nt hv (a.put d v) w e':=by
  intro v g1 g2 g3
  refine ⟨v,?_,zAu S hb hd h4 g3⟩
  simp only [Sem.run_bind,g1,Result.andThen_ok];exact g2
 simp only [zHM] at h3
 split at h3
 ·rename_i k n _ m
  split at h3
  ·cases h3
  ·rename_i hm;cases h3
   refine fin (.int k (k.wrap (n*2 ^ (min m.toNat k.bits)))) ?_ ?_ ⟨rfl,rfl⟩
   ·rw [hp.1,eqGuard_at_int];rfl
   ·rw [hp.1,hq.1];simp [binOp,Op.shift,hm]
 ·rename_i k n _ m
  split at h3
  ·cases h3
  ·rename_i hm;cases h3
   refine fin (.int k (n.fdiv (2 ^ (min m.toNat k.bits)))) ?_ ?_ ⟨rfl,rfl⟩
   ·rw [hp.1,eqGuard_at_int];rfl
   ·rw [hp.1,hq.1];simp [binOp,Op.shift,hm]
 ·rename_i k n k' m hns1 hns2
  split at h3
  ·rename_i hk;subst hk
   obtain ⟨v,g1,g2⟩:=zTK (P:=P) (w:=w) (Φ:=Φ) (A:=zA1 w rv E) (t:=t) h3 ⟨fun hc=>hns1 hc,fun hc=>hns2 hc⟩
   refine fin v ?_ ?_ g2
   ·rw [hp.1,eqGuard_at_int];rfl
   ·rw [hp.1,hq.1];exact g1
  ·cases h3
 ·rename_i wR
  simp only [Option.map_eq_some_iff] at h3
  obtain ⟨b,h5,rfl⟩:=h3
  obtain ⟨g1,g2,g3⟩:=zT5 h5 zUa hp hq (fun k n k' m h1 h2=>wR k n k' m h1 h2) .eql x y
  exact fin (.bool b) g1 (zRl g3 g2).1 ⟨rfl,rfl⟩
 ·rename_i wR
  simp only [Option.map_eq_some_iff] at h3
  obtain ⟨b,h5,rfl⟩:=h3
  obtain ⟨g1,g2,g3⟩:=zT5 h5 zUa hp hq (fun k n k' m h1 h2=>wR k n k' m h1 h2) .neq x y
  exact fin (.bool !b) g1 (zRl g3 g2).2 ⟨rfl,rfl⟩
 ·cases h3
theorem zSw (S:St w0 U Φ0 nt hv a w e Φ rv E L) (hb:zBk E) {d:Option Nat} (hd:∀ x,d=some x→x<nt) {t:TypeId} {x:Operand} {i:Nat} (hx:zAL nt x=true) (h:(zSd P d t x i).run o e=some e') :
  ∃ v,(Instr.field t (a.eval x) i).run P w = .ok v w∧Fr w0 U Φ0 nt hv (a.put d v) w e':=by
 obtain ⟨p,h1,hp⟩:=zBo S hx h
 obtain ⟨f,h2,h3⟩:=zBz h1
 obtain ⟨sh,h4,h5⟩:=zBz h3
 obtain ⟨q,h6,h7⟩:=zBz h5
 have vh:∃ cs,p = .agg cs:=by cases p<;>first | exact ⟨_,rfl⟩ | (cases sh<;>cases h6)
 obtain ⟨cs,rfl⟩:=vh
 obtain ⟨vs,hv,hr⟩:=hp
 obtain ⟨u,h8,h9⟩:=zFh (P:=P) h4 (p := .agg cs) ⟨vs,rfl,hr⟩ h6
 refine ⟨u,?_,zAu S hb hd h7 h9⟩
 simp only [zLd] at h2
 cases ht:P.underlying t with
 | none=>rw [ht] at h2;cases h2
 | some td =>
  rw [ht] at h2
  cases td<;>simp only at h2<;>try (cases h2;done)
  rw [hv]
  simp only [Instr.field,Sem.run_bind,run_underlying ht,Result.andThen_ok,h2,asAgg,Sem.run_pure]
  exact h8
theorem zS6 (S:St w0 U Φ0 nt hv a w e Φ rv E L) (hb:zBk E) {d:Option Nat} (hd:∀ x,d=some x→x<nt) {t:TypeId} {x i:Operand} (hx:zAL nt x=true) (hi:zAL nt i=true) (h:(zLt P d t x i).run o e=some e') :
  ∃ v,(Instr.index t (a.eval x) (a.eval i)).run P w = .ok v w∧Fr w0 U Φ0 nt hv (a.put d v) w e':=by
 obtain ⟨p,h1,hp⟩:=zBo S hx h
 obtain ⟨pi,h2,hpi⟩:=zBo S hi h1
 obtain ⟨ik,n,rfl,hn,h3⟩:=zDZ h2
 split at h3
 ·rename_i len el ht
  split at h3
  ·rename_i s sh hs j5
   obtain ⟨yF,h4⟩:=zDe h3
   obtain ⟨q,h5,h6⟩:=zBz h4
   have vh:∃ cs,p = .agg cs:=by cases p<;>first | exact ⟨_,rfl⟩ | (cases sh<;>cases h5)
   obtain ⟨cs,rfl⟩:=vh
   obtain ⟨vs,hv,hr⟩:=hp
   obtain ⟨u,h8,h9⟩:=zFh (P:=P) j5 (p := .agg cs) ⟨vs,rfl,hr⟩ h5
   refine ⟨u,?_,zAu S hb hd h6 h9⟩
   obtain ⟨ti,jM,_⟩:=zEZ (w:=w) j5
   have yE:ti.size=s:=by simp only [szT,jM,Option.map_some,Option.some.injEq] at hs;exact hs
   subst yE
   rw [hv,hpi.1]
   simp only [Instr.index,Sem.run_bind,asIntOf,Sem.run_pure,Result.andThen_ok,run_underlying ht,zAV jM]
   rw [if_pos ⟨hn,by omega⟩]
   simp only [Sem.run_bind,zAV jM,Result.andThen_ok]
   exact h8
  ·cases h3
 ·cases h3
theorem zQR {p q:PV} {off:Nat} {sh:Option Nat} {v:Value} (h:zCd p off sh=some q) (hp:Rep w Φ (zA1 w rv E) p v []) :
  ∃ b,v = .pointer (some b)∧b.spot=none∧sh≠some 0∧Rep w Φ (zA1 w rv E) q (.pointer (some (zAr b off))) []:=by
 have h0:sh≠some 0:=by intro hc;subst hc;cases h
 replace h:zOU p off sh=some q:=by
  cases sh with
  | none=>exact h
  | some n=>cases n with
   | zero=>exact absurd rfl h0
   | succ n=>exact h
 cases p<;>simp only [zOU] at h<;>try (cases h;done)
 case ref q0 =>
  obtain ⟨_,b,c,u,rfl,y1,hΦ,yC,jB,⟨yE,j8⟩,hr⟩:=hp
  refine ⟨b,rfl,y1,h0,?_⟩
  cases hs:sub q0 off sh with
  | none=>rw [hs] at h;cases h
  | some x =>
   rw [hs] at h;simp only at h
   have qH:∀ n,off+n≤q0.cells.length→seg c (b.off+off) n=(u.cells.toList.drop off).take n:=by
    intro n hn
    rw [← jB]
    apply List.ext_getElem?
    intro k
    simp only [seg,List.getElem?_take,List.getElem?_drop]
    by_cases hk:k<n
    ·rw [if_pos hk,if_pos hk,if_pos (by omega),Nat.add_assoc]
    ·rw [if_neg hk,if_neg hk]
   cases q0<;>try (cases sh<;>cases hs;done)
   rename_i cs
   obtain ⟨vs,rfl,hr⟩:=hr
   have hZ:=hr.length
   cases sh with
   | some n =>
    simp only [sub] at hs
    split at hs
    ·rename_i yP
     cases hs
     simp only [Option.isSome_some,Bool.true_or,cond_true,Option.some.injEq] at h
     subst h
     refine ⟨rfl,zAr b off,c,.agg ((vs.toList.drop off).take n).toArray,rfl,rfl,hΦ,yC,?_,⟨?_,rfl⟩,_,rfl,by simpa using zBO hr off n⟩
     ·simp only [zAr,PV.cells,Value.cells]
      rw [show ((cs.drop off).take n).length=n by simp;omega]
      exact qH n yP
     ·simp only [Value.cells,PV.cells];simp at hZ ⊢;omega
    ·cases hs
   | none =>
    simp only [sub] at hs
    obtain ⟨u2,La,Li,Lb,hu,hL,kf,_,_⟩:=hr.split hs
    have:Li=[]:=by
     have:=congrArg List.length hL;simp at this
     exact List.eq_nil_of_length_eq_zero (by omega)
    subst this
    simp only [Option.isSome_none,Bool.false_or] at h
    cases j6:x.oneCell with
    | false=>rw [j6] at h;cases h
    | true =>
     rw [j6] at h;simp only [cond_true,Option.some.injEq] at h;subst h
     have h1:=zBA (zB1 (fun a v hw h=>zCV hw h) kf j6)
     have h2:=zBf j6
     have yF:off<cs.length:=(List.getElem?_eq_some_iff.1 hs).1
     refine ⟨rfl,zAr b off,c,u2,rfl,rfl,hΦ,yC,?_,⟨by rw [h1.1,h2.1];rfl,by rw [h1.2,h2.2]⟩,kf⟩
     rw [h1.1,h2.1]
     have:=qH 1 (by simp only [PV.cells];omega)
     simp only [zAr,List.length_singleton]
     rw [this]
     simp only [Value.cells]
     have wh:off<vs.toList.length:=by omega
     rw [List.drop_eq_getElem_cons wh]
     rw [List.getElem?_eq_getElem wh] at hu
     simp only [Option.some.injEq] at hu
     simp [← hu]
 case addr r pre i c s =>
  cases s with
  | none=>cases h
  | some s =>
   simp only [Option.some.injEq] at h;subst h
   obtain ⟨_,hg,b,rfl,y1,hn⟩:=hp
   refine ⟨b,rfl,y1,h0,rfl,hg,zAr b off,rfl,rfl,fun nv np hf a' ha=>?_⟩
   have key:∃ a0,zA4 nv np i c=some a0∧a'=zAr a0 off:=by
    cases np<;>try (simp [zA4] at ha;done)
    ·cases nv with
     | slice x _ _ =>
      cases x with
      | none=>cases ha
      | some x=>simp only [zA4] at ha ⊢;cases ha;exact ⟨_,rfl,by simp [zAr,Nat.add_assoc]⟩
     | pointer x=>cases x<;>cases ha
     | _=>cases ha
    ·cases nv with
     | pointer x =>
      cases x with
      | none=>cases i<;>cases ha
      | some x=>cases i<;>simp only [zA4] at ha ⊢ <;> cases ha;exact ⟨_,rfl,by simp [zAr,Nat.add_assoc]⟩
     | slice x _ _=>cases x<;>cases ha
     | _=>cases ha
   obtain ⟨a0,h1,h2⟩:=key
   rw [h2,hn nv np hf a0 h1]
theorem zMn (S:St w0 U Φ0 nt hv a w e Φ rv E L) (hb:zBk E) {d:Option Nat} (hd:∀ x,d=some x→x<nt) {t:TypeId} {x:Operand} {i:Nat} (hx:zAL nt x=true) (h:(zJm P d t x i).run o e=some e') :
  ∃ v,(Instr.fieldAt t (a.eval x) i).run P w = .ok v w∧Fr w0 U Φ0 nt hv (a.put d v) w e':=by
 obtain ⟨p,h1,hp⟩:=zBo S hx h
 obtain ⟨f,h2,h3⟩:=zBz h1
 obtain ⟨sh,h4,h5⟩:=zBz h3
 obtain ⟨q,h6,h7⟩:=zBz h5
 obtain ⟨b,h8,h9,jQ,vG⟩:=zQR h6 hp
 obtain ⟨ti,jM,_,ui,uR⟩:=zEZ (w:=w) h4
 refine ⟨_,?_,zAu S hb hd h7 vG⟩
 have yE:ti.size≠0:=by
  cases sh with
  | none=>rw [uR rfl];decide
  | some n=>rw [← ui n rfl];intro hc;subst hc;exact jQ rfl
 simp only [zLd] at h2
 cases ht:P.underlying t with
 | none=>rw [ht] at h2;cases h2
 | some td =>
  rw [ht] at h2
  cases td<;>simp only at h2<;>try (cases h2;done)
  rw [h8]
  simp only [Instr.fieldAt,Sem.run_bind,run_underlying ht,Result.andThen_ok,h2,Instr.sureAddr,Sem.run_pure,fieldPlace,zAV jM,yE,if_false,Sem.run_ite]
  rw [zBN h9]
theorem zCc {t:TypeId} {n:Nat} (h:szT P t=some n):∃ i,P.info? t=some i∧i.size=n:=by
 simp only [szT] at h
 cases hi:P.info? t with
 | none=>rw [hi] at h;cases h
 | some i=>rw [hi] at h;simp only [Option.map_some,Option.some.injEq] at h;exact ⟨i,rfl,h⟩
theorem zTf {el:TypeId} {p q:PV} {i:Nat} {v:Value} {d:Option Nat} {k:PV→PM} (h:(zSe P d el p i).run o e=some e') (hp:Rep w Φ (zA1 w rv E) p v []) :
  ∃ ti b n c q,P.info? el=some ti∧v = .slice (some b) n c∧i<n∧(put d q).run o e=some e'∧Rep w Φ (zA1 w rv E) q (.pointer (some (b.add (i*ti.size)))) []:=by
 cases p<;>simp only [zSe] at h<;>try (cases h;done)
 case sl xs =>
  obtain ⟨x,hx,h1⟩:=zBz h
  obtain ⟨hs,h2⟩:=zDe h1
  obtain ⟨ti,jM,yE⟩:=zCc hs
  obtain ⟨_,⟨h3,_⟩ | ⟨b,n,c,us,sz,rfl,y1,yP,hΦ,yC,jX,⟨ka,w7⟩,jB,hr⟩⟩:=hp
  ·subst h3;simp at hx
  ·have yF:i<xs.length:=(List.getElem?_eq_some_iff.1 hx).1
   obtain ⟨u,La,Li,Lb,hu,hL,kf,_,_⟩:=hr.split hx
   have uS:Li=[]:=by
    have:=congrArg List.length hL;simp at this
    exact List.eq_nil_of_length_eq_zero (by omega)
   subst uS
   have vU:=jX x (List.mem_of_getElem? hx)
   have jA:=ka u (List.mem_of_getElem? hu)
   have hg:zCa u=x.isAgg:=by
    have h1:(us.map zCa)[i]? = some (zCa u):=by simp [hu]
    have h2:(xs.map PV.isAgg)[i]? = some x.isAgg:=by simp [hx]
    rw [w7] at h1;rw [h1] at h2;simpa using h2
   refine ⟨ti,b,xs.length,n,.ref x,jM,rfl,yF,h2,rfl,zAr b (i*sz),c,u,?_,rfl,hΦ,yC,?_,⟨by omega,hg⟩,kf.mono zDf.refl (fun _ _ _ h=>h.elim) (by simp)⟩
   ·rw [zBN y1,yE,vU]
   ·rw [vU]
    refine zGC (by simpa using jA) fun k y hy=>?_
    have hf:=zDW ka hu hy
    rw [← jB] at hf
    have:=zDd hf
    simp only [zAr,Nat.add_assoc];exact this
 case bor r pre z lo n =>
  cases j5:shT P el with
  | none=>rw [j5] at h;cases h
  | some sh =>
   rw [j5] at h;simp only at h
   obtain ⟨⟨yF,hs⟩,h2⟩:=zDe h
   obtain ⟨ti,jM,yE⟩:=zCc hs
   obtain ⟨_,hg,⟨x,cap,rfl,yR,yX,y4⟩,hn⟩:=hp
   cases x with
   | none=>have:=yX rfl;omega
   | some b =>
    refine ⟨ti,b,n,cap,_,jM,rfl,yF,h2,rfl,hg,b.add (i*ti.size),rfl,by rw [zBN (y4 b rfl)];rfl,fun nv np hf a' ha=>?_⟩
    have hh:np.heavy0=true:=by cases np<;>first | rfl | (simp [zA4] at ha;done)
    obtain ⟨sz,xs,h3,h4,h5⟩:=hn nv np hf hh
    subst h3;subst h4
    cases nv<;>simp only [zBH] at h5
    rename_i y l c
    cases y with
    | none=>cases ha
    | some y =>
     simp only [zBH,Value.slice.injEq,Option.some.injEq] at h5
     simp only [zA4,Option.some.injEq] at ha
     rw [← ha,zBN (y4 b rfl),h5.1.1,yE]
     simp [zAr,Nat.add_mul,Nat.add_assoc]
 case bsl r pre j c0 s ag n =>
  obtain ⟨⟨yF,hs⟩,h2⟩:=zDe h
  obtain ⟨ti,jM,yE⟩:=zCc hs
  obtain ⟨_,hg,b,cap,rfl,yR,y4,hn⟩:=hp
  refine ⟨ti,b,n,cap,_,jM,rfl,yF,h2,rfl,hg,b.add (i*ti.size),rfl,by rw [zBN y4];rfl,fun nv np hf a' ha=>?_⟩
  have key:∃ a0,zA4 nv np j c0=some a0∧a'=zAr a0 (i*s):=by
   cases np<;>try (simp [zA4] at ha;done)
   ·cases nv with
    | slice x _ _ =>
     cases x with
     | none=>cases ha
     | some x=>simp only [zA4] at ha ⊢;cases ha;exact ⟨_,rfl,by simp [zAr,Nat.add_assoc]⟩
    | pointer x=>cases x<;>cases ha
    | _=>cases ha
   ·cases nv with
    | pointer x =>
     cases x with
     | none=>cases j<;>cases ha
     | some x=>cases j<;>simp only [zA4] at ha ⊢ <;> cases ha;exact ⟨_,rfl,by simp [zAr,Nat.add_assoc]⟩
    | slice x _ _=>cases x<;>cases ha
    | _=>cases ha
  obtain ⟨a0,h3,h4⟩:=key
  rw [h4,zBN y4,hn nv np hf a0 h3,yE]
theorem zM1 (S:St w0 U Φ0 nt hv a w e Φ rv E L) (hb:zBk E) {d:Option Nat} (hd:∀ x,d=some x→x<nt) {t:TypeId} {x i:Operand} (hx:zAL nt x=true) (hi:zAL nt i=true) (h:(zE0 P d t x i).run o e=some e') :
  ∃ v,(Instr.indexAt t (a.eval x) (a.eval i)).run P w = .ok v w∧Fr w0 U Φ0 nt hv (a.put d v) w e':=by
 obtain ⟨p,h1,hp⟩:=zBo S hx h
 obtain ⟨pi,h2,hpi⟩:=zBo S hi h1
 obtain ⟨ik,n,rfl,hn,h3⟩:=zDZ h2
 rw [hpi.1]
 split at h3
 ·rename_i len el ht
  simp only [zOZ] at h3
  split at h3
  ·rename_i s sh hs j5
   obtain ⟨yF,h4⟩:=zDe h3
   obtain ⟨q,h5,h6⟩:=zBz h4
   obtain ⟨b,h7,h8,h9,jQ⟩:=zQR h5 hp
   obtain ⟨ti,jM,yE⟩:=zCc hs
   refine ⟨_,?_,zAu S hb hd h6 jQ⟩
   rw [h7]
   simp only [Instr.indexAt,Sem.run_bind,asIntOf,Sem.run_pure,Result.andThen_ok,run_underlying ht,Instr.sureAddr]
   rw [if_pos ⟨hn,by omega⟩]
   simp only [Sem.run_bind,zAV jM,Result.andThen_ok,Sem.run_pure]
   rw [zBN h8,yE]
  ·cases h3
 ·rename_i el ht
  obtain ⟨ti,b,m,c,q,jM,yD,yF,h4,h5⟩:=zTf (q := .bad) (k:=fun _ => .ok) h3 hp
  refine ⟨_,?_,zAu S hb hd h4 h5⟩
  rw [yD]
  simp only [Instr.indexAt,Sem.run_bind,asIntOf,Sem.run_pure,Result.andThen_ok,run_underlying ht]
  rw [if_pos ⟨hn,by omega⟩]
  simp only [Sem.run_bind,zAV jM,Result.andThen_ok,Sem.run_pure]
 ·cases h3
theorem zTe {p:PV} {n:Nat} {v:Value} (h:lenOf p=some n) (hp:Rep w Φ (zA1 w rv E) p v []):∃ b c,v = .slice b n c:=by
 cases p<;>simp only [lenOf] at h<;>try (cases h;done)
 case nils=>cases h;exact ⟨_,_,hp.1⟩
 case nn=>cases h;obtain ⟨_,b,c,h1⟩:=hp;exact ⟨_,_,h1⟩
 case sl xs =>
  cases h
  obtain ⟨_,⟨rfl,b,c,rfl,_⟩ | ⟨b,c,_,_,_,rfl,_⟩⟩:=hp
  ·exact ⟨_,_,rfl⟩
  ·exact ⟨_,_,rfl⟩
 case bor=>cases h;obtain ⟨_,_,⟨b,c,rfl,_⟩,_⟩:=hp;exact ⟨_,_,rfl⟩
 case bsl=>cases h;obtain ⟨_,_,b,c,rfl,_⟩:=hp;exact ⟨_,_,rfl⟩
theorem zWh (S:St w0 U Φ0 nt hv a w e Φ rv E L) (hb:zBk E) {d:Option Nat} (hd:∀ x,d=some x→x<nt) {ty:TypeId} {ts:Array TypeId} {xs:Array Operand} (hx:∀ x∈xs.toList,zAL nt x=true)
  (h:(zBm P d .len ts.toList xs.toList).run o e=some e') :
  ∃ v,(Builtin.len_ ts ty (xs.map a.eval)).run P w = .ok v w∧Fr w0 U Φ0 nt hv (a.put d v) w e':=by
 obtain ⟨ts⟩:=ts;obtain ⟨xs⟩:=xs
 simp only at h hx
 rcases xs with _ | ⟨x,_ | ⟨y,xs⟩⟩<;>rcases ts with _ | ⟨t,ts⟩<;>try (cases h;done)
 obtain ⟨p,h1,hp⟩:=zBo S (hx x (by simp)) h
 split at h1
 ·rename_i n el ht
  refine ⟨_,?_,zAu S hb hd h1 ⟨rfl,rfl⟩⟩
  simp only [Builtin.len_,List.map_toArray,List.map_cons,List.map_nil,List.getElem?_toArray,List.getElem?_cons_zero,Sem.run_bind,run_underlying ht,Result.andThen_ok]
  cases a.eval x<;>rfl
 ·rename_i el ht
  split at h1
  ·rename_i n hn
   obtain ⟨b,c,yD⟩:=zTe hn hp
   refine ⟨_,?_,zAu S hb hd h1 ⟨rfl,rfl⟩⟩
   simp only [Builtin.len_,List.map_toArray,List.map_cons,List.map_nil,List.getElem?_toArray,List.getElem?_cons_zero,Sem.run_bind,run_underlying ht,Result.andThen_ok,yD]
   rfl
  ·cases h1
 ·cases h1
theorem zRa {k:IntKind}:∀ (ps:List PV) (vs:List Value) (m:Int) (r:Option Int),zAX w Φ A ps vs [] →
  (ps.foldl (fun m p=>match m,p with
   | some m,.int k' b=>if k=k' then some (if b>m then b else m) else none
   | _,_=>none) (some m))=r→∀ z,r=some z→(vs.foldlM Builtin.max2 (.int k m)).run P w = .ok (.int k z) w
 | [],vs,m,r,hr,h,z,hz=>by rw [hr.1];simp only [List.foldl_nil] at h;rw [← h] at hz;cases hz;rfl
 | p :: ps,vs,m,r,hr,h,z,hz=>by
  obtain ⟨v,vs',L1,L2,rfl,hL,h1,h2⟩:=hr
  obtain ⟨rfl,rfl⟩:L1=[]∧L2=[]:=by simpa using hL.symm
  have dead:∀ qs:List PV,qs.foldl (fun m p=>match m,p with
   | some m,.int k' b=>if k=k' then some (if b>m then b else m) else none
   | _,_=>none) (none:Option Int)=none:=by
   intro qs;induction qs with
   | nil=>rfl
   | cons q qs ih=>simp only [List.foldl_cons];exact ih
  simp only [List.foldl_cons] at h
  cases p<;>try (simp only at h;rw [dead] at h;rw [← h] at hz;cases hz;done)
  rename_i k' b
  simp only at h
  split at h
  ·rename_i hk;subst hk
   rw [h1.1]
   simp only [List.foldlM_cons,Builtin.max2,Sem.run_bind,Sem.run_pure,Result.andThen_ok]
   exact zRa ps vs' _ r h2 h z hz
  ·rw [dead] at h;rw [← h] at hz;cases hz
theorem zRm {k:IntKind}:∀ (ps:List PV) (vs:List Value) (m:Int) (r:Option Int),zAX w Φ A ps vs [] →
  (ps.foldl (fun m p=>match m,p with
   | some m,.int k' b=>if k=k' then some (if b<m then b else m) else none
   | _,_=>none) (some m))=r→∀ z,r=some z→(vs.foldlM Builtin.min2 (.int k m)).run P w = .ok (.int k z) w
 | [],vs,m,r,hr,h,z,hz=>by rw [hr.1];simp only [List.foldl_nil] at h;rw [← h] at hz;cases hz;rfl
 | p :: ps,vs,m,r,hr,h,z,hz=>by
  obtain ⟨v,vs',L1,L2,rfl,hL,h1,h2⟩:=hr
  obtain ⟨rfl,rfl⟩:L1=[]∧L2=[]:=by simpa using hL.symm
  have dead:∀ qs:List PV,qs.foldl (fun m p=>match m,p with
   | some m,.int k' b=>if k=k' then some (if b<m then b else m) else none
   | _,_=>none) (none:Option Int)=none:=by
   intro qs;induction qs with
   | nil=>rfl
   | cons q qs ih=>simp only [List.foldl_cons];exact ih
  simp only [List.foldl_cons] at h
  cases p<;>try (simp only at h;rw [dead] at h;rw [← h] at hz;cases hz;done)
  rename_i k' b
  simp only at h
  split at h
  ·rename_i hk;subst hk
   rw [h1.1]
   simp only [List.foldlM_cons,Builtin.min2,Sem.run_bind,Sem.run_pure,Result.andThen_ok]
   exact zRm ps vs' _ r h2 h z hz
  ·rw [dead] at h;rw [← h] at hz;cases hz
theorem zW1 (S:St w0 U Φ0 nt hv a w e Φ rv E L) (hb:zBk E) {d:Option Nat} (hd:∀ x,d=some x→x<nt) {ty:TypeId} {ts:Array TypeId} {xs:Array Operand} (hx:∀ x∈xs.toList,zAL nt x=true)
  (h:(zBm P d .max ts.toList xs.toList).run o e=some e'):∃ v,(Builtin.max_ ts ty (xs.map a.eval)).run P w = .ok v w∧Fr w0 U Φ0 nt hv (a.put d v) w e':=by
 simp only [zBm] at h
 obtain ⟨ps,h1,hp⟩:=zHo S hx h
 cases hm:zWE ps with
 | none=>rw [hm] at h1;cases h1
 | some r =>
  rw [hm] at h1;simp only at h1
  rcases ps with _ | ⟨p,ps⟩<;>simp only [zWE] at hm<;>try (cases hm;done)
  cases p<;>simp only at hm<;>try (cases hm;done)
  rename_i k x0
  simp only [Option.map_eq_some_iff] at hm
  obtain ⟨z,hz,rfl⟩:=hm
  obtain ⟨v,vs',L1,L2,yf,hL,g1,g2⟩:=hp
  obtain ⟨rfl,rfl⟩:L1=[]∧L2=[]:=by simpa using hL.symm
  refine ⟨.int k z,?_,zAu S hb hd h1 ⟨rfl,rfl⟩⟩
  simp only [Builtin.max_,Array.toList_map,yf]
  rw [g1.1]
  exact zRa ps vs' x0 _ g2 hz z rfl
theorem zWi (S:St w0 U Φ0 nt hv a w e Φ rv E L) (hb:zBk E) {d:Option Nat} (hd:∀ x,d=some x→x<nt) {ty:TypeId} {ts:Array TypeId} {xs:Array Operand} (hx:∀ x∈xs.toList,zAL nt x=true)
  (h:(zBm P d .min ts.toList xs.toList).run o e=some e'):∃ v,(Builtin.min_ ts ty (xs.map a.eval)).run P w = .ok v w∧Fr w0 U Φ0 nt hv (a.put d v) w e':=by
 simp only [zBm] at h
 obtain ⟨ps,h1,hp⟩:=zHo S hx h
 cases hm:zW4 ps with
 | none=>rw [hm] at h1;cases h1
 | some r =>
  rw [hm] at h1;simp only at h1
  rcases ps with _ | ⟨p,ps⟩<;>simp only [zW4] at hm<;>try (cases hm;done)
  cases p<;>simp only at hm<;>try (cases hm;done)
  rename_i k x0
  simp only [Option.map_eq_some_iff] at hm
  obtain ⟨z,hz,rfl⟩:=hm
  obtain ⟨v,vs',L1,L2,yf,hL,g1,g2⟩:=hp
  obtain ⟨rfl,rfl⟩:L1=[]∧L2=[]:=by simpa using hL.symm
  refine ⟨.int k z,?_,zAu S hb hd h1 ⟨rfl,rfl⟩⟩
  simp only [Builtin.min_,Array.toList_map,yf]
  rw [g1.1]
  exact zRm ps vs' x0 _ g2 hz z rfl
end
end Go.Eng
namespace Go.Eng
open Go
section
variable {P:Program} {w0 w w':World} {U Φ0 Φ:Nat→Prop} {nt:Nat} {hv:Hid} {a:Act} {e e':Env} {rv rv':Nat→Value} {E E':Nat→PV} {L L':Nat→List Nat} {o:zAC} {A:Al}
def zGr (w:World) (c:Array Value) (t:TypeId):World:={w with heap:=w.heap.push (.cells c t)}
theorem zFb (t:TypeId) (c:Array Value):(newRow t c).run P w = .ok ⟨w.heap.size,0,none⟩ (zGr w c t):=by
 simp [newRow,zGr]
theorem zGY {c:Array Value} {t:TypeId} {b:Nat} (h:b<w.heap.size):(zGr w c t).heap[b]? = w.heap[b]?:=by
 simp only [zGr,Array.getElem?_push];rw [if_neg (by omega)]
theorem zLU {c:Array Value} {t:TypeId}:zEK (zGr w c t) w.heap.size c:=⟨t,by show (w.heap.push (.cells c t))[w.heap.size]? = _;simp⟩
theorem zF1 {c:Array Value} {t:TypeId}:(zGr w c t).heap.size=w.heap.size+1:=by simp [zGr]
theorem zLJ {p:PV} {v:Value} (h:zJ7 p v=true):Rep w Φ A p v []∧p.oneCell=true∧v.oneCell'=true:=by
 cases p<;>cases v<;>simp only [zJ7] at h<;>try (cases h;done)
 case int=>simp only [Bool.and_eq_true,decide_eq_true_eq] at h;obtain ⟨rfl,rfl⟩:=h;exact ⟨⟨rfl,rfl⟩,rfl,rfl⟩
 case bool=>simp only [beq_iff_eq] at h;subst h;exact ⟨⟨rfl,rfl⟩,rfl,rfl⟩
 case nilp.pointer a=>cases a<;>simp only [zJ7] at h<;>first | (cases h;done) | exact ⟨⟨rfl,rfl⟩,rfl,rfl⟩
 case nilf=>exact ⟨⟨rfl,rfl⟩,rfl,rfl⟩
 case nilm.map a=>cases a<;>simp only [zJ7] at h<;>first | (cases h;done) | exact ⟨⟨rfl,rfl⟩,rfl,rfl⟩
 case own.slice sz xs a n c =>
  cases xs with
  | cons _ _=>simp only [zJ7] at h;cases h
  | nil =>
   cases a with
   | some _=>simp only [zJ7] at h;cases h
   | none=>cases n<;>cases c<;>simp only [zJ7] at h<;>first | (cases h;done) | exact ⟨.inl ⟨rfl,rfl,rfl⟩,rfl,rfl⟩
theorem zMq:∀ {ps:List PV} {vs:List Value},zTl ps vs=true→zAX w Φ A ps vs []∧(∀ v∈vs,v.oneCell'=true)∧∀ p∈ps,p.oneCell=true
 | [],[],_=>⟨⟨rfl,rfl⟩,by simp,by simp⟩
 | [],_::_,h=>by cases h
 | _::_,[],h=>by cases h
 | p::ps,v::vs,h=>by
  simp only [zTl,Bool.and_eq_true] at h
  obtain ⟨h1,h2,h3⟩:=zLJ (w:=w) (Φ:=Φ) (A:=A) h.1
  obtain ⟨h4,h5,h6⟩:=zMq h.2
  exact ⟨⟨v,vs,[],[],rfl,rfl,h1,h4⟩,fun x hx=>(List.mem_cons.1 hx).elim (fun e=>e▸h3) (h5 x),fun x hx=>(List.mem_cons.1 hx).elim (fun e=>e▸h2) (h6 x)⟩
theorem zB8 {p:PV} {v:Value} (h:zMP p v=true):Rep w Φ A p v []∧v.cells.size=p.cells.length∧zCa v=p.isAgg∧(∀ u∈v.cells.toList,u.oneCell'=true)∧∀ q∈p.cells,q.oneCell=true:=by
 by_cases hp:∃ cs,p = .agg cs
 ·obtain ⟨cs,rfl⟩:=hp
  cases v<;>simp only [zMP] at h<;>try (cases h;done)
  rename_i vs
  obtain ⟨h1,h2,h3⟩:=zMq (w:=w) (Φ:=Φ) (A:=A) h
  have:=h1.length
  exact ⟨⟨vs,rfl,h1⟩,by simpa [Value.cells,PV.cells] using this,rfl,h2,h3⟩
 ·have h:zJ7 p v=true:=by
   rw [← h];cases p<;>first | rfl | exact absurd ⟨_,rfl⟩ hp
  obtain ⟨h1,h2,h3⟩:=zLJ (w:=w) (Φ:=Φ) (A:=A) h
  have h4:=zBA h3
  have h5:=zBf h2
  exact ⟨h1,by rw [h4.1,h5.1];rfl,by rw [h4.2,h5.2],by rw [h4.1];simpa using h3,by rw [h5.1];simpa using h2⟩
theorem zDH {t:TypeId} {z:PV} (h:zCx P t=some z):∃ i v,P.info? t=some i∧i.zero=some v∧(∀ w:World,(zeroValue t).run P w = .ok v w)∧zMP z v=true:=by
 simp only [zCx] at h
 split at h
 ·rename_i cs sh v _ _ hv
  cases hi:P.info? t with
  | none=>rw [hi] at hv;cases hv
  | some i =>
   rw [hi] at hv;simp only [Option.bind_some] at hv
   cases hz:zMP (zNT sh cs) v with
   | false=>rw [hz] at h;cases h
   | true =>
    rw [hz] at h;simp only [cond_true,Option.some.injEq] at h
    subst h
    refine ⟨i,v,rfl,hv,fun w=>?_,hz⟩
    simp [zeroValue,typeInfo,hi,hv]
 ·cases h
theorem St.boxed (S:St w0 U Φ0 nt hv a w e Φ rv E L) {g0 g:Nat} (hg0:zAb≤g0) (hg:zAb≤g) (hI:g≠g0) (uT:E g = .bad) {v:Value} (yD:rv g0=v) (t:TypeId) (yE:v.cells.size=(E g0).cells.length∧zCa v=(E g0).isAgg) :
  ∃ rv1 E1 L1,St w0 U Φ0 nt hv a (zGr w v.cells t) e Φ rv1 E1 L1∧E1 g = .box (E g0)∧rv1 g = .pointer (some ⟨w.heap.size,0,none⟩)∧E1 g0 = .bad∧∀ s,zAb≤s→s≠g→s≠g0→E1 s=E s:=by
 have hX:=S.conf.rep g0
 rw [yD] at hX
 have hold:∀ b∈L g0,(zGr w v.cells t).heap[b]? = w.heap[b]?:=fun b hb=>zGY (S.conf.own g0 b hb).1
 have hΦ:zDf w (zGr w v.cells t) Φ Φ:=fun b hb=>⟨hb,zGY (S.conf.frz b hb).1⟩
 have hc:=S.conf.make (w':=zGr w v.cells t) (fun s=>s==g0) (fun s hs=>by have:=eq_of_beq hs;omega) hg (p := .box (E g0)) (v := .pointer (some ⟨w.heap.size,0,none⟩)) (Lp:=w.heap.size::L g0)
  (fun A hA=>⟨_,v.cells,v,L g0,rfl,rfl,rfl,zLU,by show (v.cells.toList.drop 0).take _=_;rw [← yE.1];exact List.take_of_length_le (by simp),yE,hX.mono hΦ hA hold⟩)
  (List.nodup_cons.2 ⟨fun hm=>absurd (S.conf.own g0 _ hm).1 (Nat.lt_irrefl _),S.conf.nodup g0⟩)
  (fun b hb=>by
   rcases List.mem_cons.1 hb with rfl | hb
   ·exact .inr ⟨Nat.le_refl _,by rw [zF1];omega⟩
   ·exact .inl ⟨g0,hb,by simp⟩)
  (by rw [zF1];omega) (fun b hb _=>zGY hb) ⟨rfl,rfl,rfl⟩
 refine ⟨_,_,_,S.turn hc (fun s hs=>?_) (fun s hs=>zAg (by omega)) (fun d ps hd hp=>?_),zAj,zAj,?_,fun s h1 h2 h3=>?_⟩
 ·rw [zAg (by omega)]
  have:(s==g0)=false:=by simp;omega
  simp only [this,Bool.false_eq_true,if_false];exact S.env s hs
 ·simp only [zAb] at hg hg0
  rw [zAg (by omega)] at hp
  have:(d==g0)=false:=by simp;omega
  simp only [this,Bool.false_eq_true,if_false] at hp;exact ⟨ps,hp,rfl⟩
 ·rw [zAg (Ne.symm hI)];simp
 ·rw [zAg h2]
  have:(s==g0)=false:=by simp [h3]
  simp [this]
theorem zSB (S:St w0 U Φ0 nt hv a w e Φ rv E L) (hb:zBk E) {d:Option Nat} (hd:∀ x,d=some x→x<nt) {t:TypeId} (h:(zRP P d t).run o e=some e') :
  ∃ v w',(Instr.alloc t true (.tuple #[])).run P w = .ok v w'∧Fr w0 U Φ0 nt hv (a.put d v) w' e':=by
 obtain ⟨z,hz,h1⟩:=zBz h
 obtain ⟨i,v,hi,hiz,yA,kM⟩:=zDH hz
 have kN:=zB8 (w:=w) (Φ:=Φ) (A:=zA1 w rv E) kM
 obtain ⟨hr,h2,h3⟩:Rep w Φ (zA1 w rv E) (zRN P t z) v []∧v.cells.size=(zRN P t z).cells.length∧zCa v=(zRN P t z).isAgg:=by
  cases z with
  | nils k =>
   simp only [zRN]
   split
   ·exact ⟨.inl ⟨rfl,rfl,kN.1.1⟩,kN.2.1,kN.2.2.1⟩
   ·exact ⟨kN.1,kN.2.1,kN.2.2.1⟩
  | _=>exact ⟨kN.1,kN.2.1,kN.2.2.1⟩
 have S1:=S.hold (Nat.le_refl zAb) hr
 obtain ⟨rv1,E1,L1,S2,h4,h5,h6,h7⟩:=S1.boxed (g0:=zAb) (g:=zAb+1) (Nat.le_refl _) (by omega) (by omega) (by rw [zAg (by omega)];exact hb _ (by omega)) zAj t (by rw [zAj];exact ⟨h2,h3⟩)
 have:=zFw S2 hd (g:=zAb+1) (by omega) (by rw [h4,zAj];exact h1) (fun s hs hI=>by
   by_cases h8:s=zAb
   ·subst h8;exact h6
   ·rw [h7 s hs hI h8,zAg h8];exact hb s hs)
 rw [h5] at this
 refine ⟨_,_,?_,this⟩
 simp only [Instr.alloc,Sem.run_bind,yA,Result.andThen_ok,newVar,zFb,Sem.run_pure]
theorem zW3 (S:St w0 U Φ0 nt hv a w e Φ rv E L) (hb:zBk E) {d:Option Nat} (hd:∀ x,d=some x→x<nt) {t:TypeId} {x:Operand} (hx:zAL nt x=true) (h:(zTz P d t x).run o e=some e') :
  ∃ v w',(Instr.box t (a.eval x)).run P w = .ok v w'∧Fr w0 U Φ0 nt hv (a.put d v) w' e':=by
 obtain ⟨e1,rv1,E1,L1,h1,S1,h2,h3⟩:=zGm S hx (Nat.le_refl zAb) h
 split at h1
 ·rename_i sh n _ _
  obtain ⟨h4,h5⟩:=zDe h1
  simp only [Bool.and_eq_true,decide_eq_true_eq] at h4
  have hX:=S1.conf.rep zAb
  rw [h2] at hX
  have yE:(a.eval x).cells.size=(E1 zAb).cells.length∧zCa (a.eval x)=(E1 zAb).isAgg:=by
   have hw:=h4.2
   simp only [PV.whole,Bool.or_eq_true] at hw
   rcases hw with hw | hw
   ·cases hE:E1 zAb<;>rw [hE] at hw<;>simp [PV.isAgg] at hw
    rw [hE] at hX
    obtain ⟨vs,yD,hr⟩:=hX
    have:=hr.length
    rw [yD];exact ⟨by simpa [Value.cells,PV.cells] using this,rfl⟩
   ·have g1:=zBA (zB1 (fun a v hw h=>zCV hw h) hX hw)
    have g2:=zBf hw
    exact ⟨by rw [g1.1,g2.1];rfl,by rw [g1.2,g2.2]⟩
  obtain ⟨rv2,E2,L2,S2,h6,h7,h8,h9⟩:=S1.boxed (g0:=zAb) (g:=zAb+1) (Nat.le_refl _) (by omega) (by omega) (by rw [(h3 (zAb+1) (by omega) (by omega)).1];exact hb _ (by omega)) h2 t yE
  have:=zFw S2 hd (g:=zAb+1) (by omega) (by rw [h6];exact h5) (fun s hs hI=>by
    by_cases jQ:s=zAb
    ·subst jQ;exact h8
    ·rw [h9 s hs hI jQ,(h3 s hs jQ).1];exact hb s hs)
  rw [h7] at this
  refine ⟨_,_,?_,this⟩
  simp only [Instr.box,Sem.run_bind,newVar,zFb,Result.andThen_ok,Sem.run_pure]
 ·cases h1
theorem zKr {t:TypeId} {sh:Option Nat} (hs:shT P t=some sh) {b:Addr} {u:Value} (hc:∀ j y,u.cells.toList[j]? = some y→w.cell? (b.add j)=some y) (hu:zCa u=sh.isSome) (hn:u.cells.size=sh.getD 1) :
  (loadVar t b).run P w = .ok u w:=by
 obtain ⟨ti,jM,yq,h1,h2⟩:=zEZ (w:=w) hs
 cases sh with
 | some n =>
  have:=h1 n rfl;subst this
  cases u<;>simp [zCa] at hu
  rename_i vs
  simp only [Option.getD_some,Value.cells] at hn
  have hl:=run_loadCells_list (P:=P) w b vs.toList hc
  have qr:(loadCells b ti.size).run P w = .ok vs w:=by rw [← hn];simpa using hl
  simp only [loadVar,Sem.run_bind,yq,Result.andThen_ok,Option.isSome_some,if_true,zAV jM,qr,Sem.run_pure,Sem.run_ite]
 | none =>
  have ka:u.cells=#[u]:=by cases u<;>first | rfl | simp [zCa] at hu
  have:=hc 0 u (by rw [ka];rfl)
  have h0:b.add 0=b:=by simp [Addr.add]
  rw [h0] at this
  simp only [loadVar,Sem.run_bind,yq,Result.andThen_ok,Option.isSome_none,Bool.false_eq_true,if_false,Sem.run_ite,run_load,this]
theorem zH3 {b:Addr} {c:Array Value} {l:List Value} (y1:b.spot=none) (hr:zJW w b.block c) (h:seg c b.off l.length=l):∀ j y,l[j]? = some y→w.cell? (b.add j)=some y:=by
 intro j y hy
 rw [zBN y1]
 simp only [zAr]
 rw [zCH hr]
 rw [← h] at hy
 exact zDd hy
theorem zTh {q:List PV} {u:Value} {us:List Value} (h:zAX w Φ A q us []) (hl:us=[u]):Rep w Φ A (q.headD .bad) u []:=by
 subst hl
 cases q with
 | nil=>exact absurd h.1 (by simp)
 | cons p ps =>
  obtain ⟨v,vs',L1,L2,h1,h2,h3,_⟩:=h
  obtain ⟨rfl,rfl⟩:L1=[]∧L2=[]:=by simpa using h2.symm
  simp only [List.cons.injEq] at h1
  rw [h1.1];exact h3
theorem zLC (S:St w0 U Φ0 nt hv a w e Φ rv E L) {t:TypeId} {sh:Option Nat} (hs:shT P t=some sh) {r:Nat} {pre:zAO} {i c:Nat} {s':Option Nat} {v:Value} (hp:Rep w Φ (zA1 w rv E) (.addr r pre i c s') v [])
  {k:PV→PM} (h:(zMJ r pre i c sh k).run o e=some e'):∃ b u q,v = .pointer (some b)∧(loadVar t b).run P w = .ok u w∧(k q).run o e=some e'∧Rep w Φ (zA1 w rv E) q u []:=by
 obtain ⟨_,hg,b,rfl,y1,hn⟩:=hp
 refine ⟨b,?_⟩
 cases sh with
 | some n =>
  simp only [zMJ,PM.run] at h
  split at h
  ·rename_i ag qs hq
   rw [← S.env r hg] at hq
   obtain ⟨nv,np,ad,us,h1,h2,h3,h4,h5,h6⟩:=S.conf.cells hg hq
   have:=hn nv np h1 ad h2;subst this
   cases ag with
   | false=>cases h
   | true =>
    refine ⟨.agg us.toArray,.agg qs,rfl,zKr hs (fun j y hy=>h5 j y (by simpa [Value.cells] using hy)) rfl (by simpa [Value.cells] using h4),h,_,rfl,by simpa using h6⟩
  ·cases h
 | none =>
  simp only [zMJ,PM.run] at h
  split at h
  ·rename_i ag qs hq
   rw [← S.env r hg] at hq
   obtain ⟨nv,np,ad,us,h1,h2,h3,h4,h5,h6⟩:=S.conf.cells hg hq
   have:=hn nv np h1 ad h2;subst this
   match us,h4 with
   | [u],_ =>
    refine ⟨u,qs.headD .bad,rfl,?_,h,zTh h6 rfl⟩
    have:=h5 0 u rfl
    rw [show b.add 0=b by simp [Addr.add]] at this
    obtain ⟨ti,jM,yq,_⟩:=zEZ (w:=w) hs
    simp only [loadVar,Sem.run_bind,yq,Result.andThen_ok,Option.isSome_none,Bool.false_eq_true,if_false,Sem.run_ite,run_load,this]
  ·cases h
theorem zOw (S:St w0 U Φ0 nt hv a w e Φ rv E L) (hb:zBk E) {d:Option Nat} (hd:∀ x,d=some x→x<nt) {t:TypeId} {sh:Option Nat} (hs:shT P t=some sh) {p:PV} {v:Value} (hp:Rep w Φ (zA1 w rv E) p v []) (h:(zPg d sh p).run o e=some e') :
  ∃ u,(Instr.loadAt t v).run P w = .ok u w∧Fr w0 U Φ0 nt hv (a.put d u) w e':=by
 cases p<;>simp only [zPg] at h<;>try (cases h;done)
 case ref q =>
  obtain ⟨h1,h2⟩:=zDe h
  simp only [Bool.and_eq_true,decide_eq_true_eq] at h1
  obtain ⟨_,b,c,u,rfl,y1,hΦ,yC,jB,⟨yE,j8⟩,hr⟩:=hp
  refine ⟨u,?_,zAu S hb hd h2 hr⟩
  simp only [Instr.loadAt,Instr.sureAddr,Sem.run_bind,Sem.run_pure,Result.andThen_ok]
  refine zKr hs (zH3 y1 yC ?_) ?_ ?_
  ·rw [show u.cells.toList.length=q.cells.length by simpa using yE];exact jB
  ·rw [j8,h1.1]
  ·rw [yE,h1.2]
 case addr r pre i c s' =>
  obtain ⟨b,u,q,rfl,h1,h2,h3⟩:=zLC S hs hp h
  refine ⟨u,?_,zAu S hb hd h2 h3⟩
  simp only [Instr.loadAt,Instr.sureAddr,Sem.run_bind,Sem.run_pure,Result.andThen_ok]
  exact h1
end
end Go.Eng
