/-
  Part 3 of the lemmas of these laws: TopDag.
-/
import Derived.Test.YtjjbdaiioociaaaGreatDoorPTd2
set_option linter.unusedVariables false
set_option linter.unusedSimpArgs false
open Go.Proofs.Tryz
namespace Go.Proofs.YtjjbdaiioociaaaGreatDoor
namespace G
theorem sb{α:Type _}{E L:List α}(h:E.Sublist L:=by repeat(first|exact List.nil_sublist _|refine List.Sublist.cons_cons _ ?_|refine List.Sublist.cons _ ?_)):E.Sublist L:=h
open Go.RowKit
section
variable{k:IntKind}{S T:Nat→Prop}{w w':World}{a:Option Addr}{b c m n N sz lo B p:Nat}{cs tl:List Value}{e Ty:TypeId}{xs:List Int}{ps:List Pc}{s:ByteArray}
theorem Blk.sto(h:Blk w b cs Ty)(x:St m w w')(hn:b≠m:=by intros;try (first|(intro _ _)|(intro _)|skip);first|omega|(dsimp only at*;omega)|(simp_all;done)|(simp at*;omega)):Blk w' b cs Ty:=h.st x hn
theorem Blk.pro(h:Blk w b cs Ty)(x:Pr S w w')(hn:¬S b:=by intros;try (first|(intro _ _)|(intro _)|skip);first|omega|(dsimp only at*;omega)|(simp_all;done)|(simp at*;omega)):Blk w' b cs Ty:=h.pr x hn
theorem It.sto(h:It w b s p)(x:St m w w')(hn:b≠m:=by intros;try (first|(intro _ _)|(intro _)|skip);first|omega|(dsimp only at*;omega)|(simp_all;done)|(simp at*;omega)):It w' b s p:=h.st x hn
theorem It.pro(h:It w b s p)(x:Pr S w w')(hn:¬S b:=by intros;try (first|(intro _ _)|(intro _)|skip);first|omega|(dsimp only at*;omega)|(simp_all;done)|(simp at*;omega)):It w' b s p:=h.pr x hn
theorem UB.sto(h:UB w b N Ty)(x:St m w w')(hn:b≠m:=by intros;try (first|(intro _ _)|(intro _)|skip);first|omega|(dsimp only at*;omega)|(simp_all;done)|(simp at*;omega)):UB w' b N Ty:=h.st x hn
theorem UB.pro(h:UB w b N Ty)(x:Pr S w w')(hn:¬S b:=by intros;try (first|(intro _ _)|(intro _)|skip);first|omega|(dsimp only at*;omega)|(simp_all;done)|(simp at*;omega)):UB w' b N Ty:=h.pr x hn
theorem UBo.sto(h:UBo w b N Ty)(x:St m w w')(hn:b≠m:=by intros;try (first|(intro _ _)|(intro _)|skip);first|omega|(dsimp only at*;omega)|(simp_all;done)|(simp at*;omega)):UBo w' b N Ty:=h.st x hn
theorem UBo.pro(h:UBo w b N Ty)(x:Pr S w w')(hn:¬S b:=by intros;try (first|(intro _ _)|(intro _)|skip);first|omega|(dsimp only at*;omega)|(simp_all;done)|(simp at*;omega)):UBo w' b N Ty:=h.pr x hn
theorem IArr.sto(h:IArr k w b n xs tl Ty)(x:St m w w')(hn:b≠m:=by intros;try (first|(intro _ _)|(intro _)|skip);first|omega|(dsimp only at*;omega)|(simp_all;done)|(simp at*;omega)):IArr k w' b n xs tl Ty:=h.st x hn
theorem IArr.pro(h:IArr k w b n xs tl Ty)(x:Pr S w w')(hn:¬S b:=by intros;try (first|(intro _ _)|(intro _)|skip);first|omega|(dsimp only at*;omega)|(simp_all;done)|(simp at*;omega)):IArr k w' b n xs tl Ty:=h.pr x hn
theorem KArr.sto(h:KArr k w b n xs Ty)(x:St m w w')(hn:b≠m:=by intros;try (first|(intro _ _)|(intro _)|skip);first|omega|(dsimp only at*;omega)|(simp_all;done)|(simp at*;omega)):KArr k w' b n xs Ty:=h.st x hn
theorem KArr.pro(h:KArr k w b n xs Ty)(x:Pr S w w')(hn:¬S b:=by intros;try (first|(intro _ _)|(intro _)|skip);first|omega|(dsimp only at*;omega)|(simp_all;done)|(simp at*;omega)):KArr k w' b n xs Ty:=h.pr x hn
theorem IRow.sto(h:IRow k S w a n xs)(x:St m w w')(hn:S m→False:=by intros;try (first|(intro _ _)|(intro _)|skip);first|omega|(dsimp only at*;omega)|(simp_all;done)|(simp at*;omega)):IRow k S w' a n xs:=h.st x hn
theorem IRow.pro(h:IRow k S w a n xs)(x:Pr T w w')(hn:∀b,S b→T b→False:=by intros;try (first|(intro _ _)|(intro _)|skip);first|omega|(dsimp only at*;omega)|(simp_all;done)|(simp at*;omega)):IRow k S w' a n xs:=h.pr x hn
theorem WRow.sto(h:WRow k sz S w a n xs)(x:St m w w')(hn:S m→False:=by intros;try (first|(intro _ _)|(intro _)|skip);first|omega|(dsimp only at*;omega)|(simp_all;done)|(simp at*;omega)):WRow k sz S w' a n xs:=h.st x hn
theorem WRow.pro(h:WRow k sz S w a n xs)(x:Pr T w w')(hn:∀b,S b→T b→False:=by intros;try (first|(intro _ _)|(intro _)|skip);first|omega|(dsimp only at*;omega)|(simp_all;done)|(simp at*;omega)):WRow k sz S w' a n xs:=h.pr x hn
theorem PRow.sto(h:PRow k S w a n ps)(x:St m w w')(hn:S m→False:=by intros;try (first|(intro _ _)|(intro _)|skip);first|omega|(dsimp only at*;omega)|(simp_all;done)|(simp at*;omega)):PRow k S w' a n ps:=h.st x hn
theorem PRow.pro(h:PRow k S w a n ps)(x:Pr T w w')(hn:∀b,S b→T b→False:=by intros;try (first|(intro _ _)|(intro _)|skip);first|omega|(dsimp only at*;omega)|(simp_all;done)|(simp at*;omega)):PRow k S w' a n ps:=h.pr x hn
variable{α:Type}{f:α→List Value}{gz:Nat}{gl:List α}
theorem GRow.sto(h:GRow f gz S w a n gl)(x:St m w w')(hn:S m→False:=by intros;try (first|(intro _ _)|(intro _)|skip);first|omega|(dsimp only at*;omega)|(simp_all;done)|(simp at*;omega)):GRow f gz S w' a n gl:=h.st x hn
theorem GRow.pro(h:GRow f gz S w a n gl)(x:Pr T w w')(hn:∀b,S b→T b→False:=by intros;try (first|(intro _ _)|(intro _)|skip);first|omega|(dsimp only at*;omega)|(simp_all;done)|(simp at*;omega)):GRow f gz S w' a n gl:=h.pr x hn
theorem IOwn.sto(h:IOwn lo w e k a n c xs)(x:St m w w')(hn:obk a=Option.some m→False:=by intros;try (first|(intro _ _)|(intro _)|skip);first|omega|(dsimp only at*;omega)|(simp_all;done)|(simp at*;omega)):IOwn lo w' e k a n c xs:=h.st x hn
theorem IOwn.pro(h:IOwn lo w e k a n c xs)(x:Pr T w w')(hn:∀b,obk a=Option.some b→T b→False:=by intros;try (first|(intro _ _)|(intro _)|skip);first|omega|(dsimp only at*;omega)|(simp_all;done)|(simp at*;omega)):IOwn lo w' e k a n c xs:=h.pr x hn
theorem WOwn.sto(h:WOwn lo w e k sz a n c xs)(x:St m w w')(hn:obk a=Option.some m→False:=by intros;try (first|(intro _ _)|(intro _)|skip);first|omega|(dsimp only at*;omega)|(simp_all;done)|(simp at*;omega)):WOwn lo w' e k sz a n c xs:=h.st x hn
theorem WOwn.pro(h:WOwn lo w e k sz a n c xs)(x:Pr T w w')(hn:∀b,obk a=Option.some b→T b→False:=by intros;try (first|(intro _ _)|(intro _)|skip);first|omega|(dsimp only at*;omega)|(simp_all;done)|(simp at*;omega)):WOwn lo w' e k sz a n c xs:=h.pr x hn
variable{u v:World}
theorem Pr.sto(h:Pr S u v)(x:St n v w)(hs:S n:=by intros;try (first|(intro _ _)|(intro _)|skip);first|omega|(dsimp only at*;omega)|(simp_all;done)|(simp at*;omega)):Pr S u w:=h.st x hs
theorem Pr.stno(h:Pr S u v)(x:St n v w)(hn:S n∨u.heap.size≤n:=by intros;try (first|(intro _ _)|(intro _)|skip);first|omega|(dsimp only at*;omega)|(simp_all;done)|(simp at*;omega)):Pr S u w:=h.stn x hn
theorem Pr.prno(h:Pr S u v)(x:Pr T v w)(ht:∀n,T n→S n∨u.heap.size≤n:=by intros;try (first|(intro _ _)|(intro _)|skip);first|omega|(dsimp only at*;omega)|(simp_all;done)|(simp at*;omega)):Pr S u w:=h.prn x ht
theorem St.belo(h:St b w w')(hb:B≤b:=by intros;try (first|(intro _ _)|(intro _)|skip);first|omega|(dsimp only at*;omega)|(simp_all;done)|(simp at*;omega)):Below B w w':=h.below hb
theorem Pr.belo(h:Pr S w w')(hb:∀k,S k→B≤k:=by intros;try (first|(intro _ _)|(intro _)|skip);first|omega|(dsimp only at*;omega)|(simp_all;done)|(simp at*;omega))(hB:B≤w.heap.size:=by intros;try (first|(intro _ _)|(intro _)|skip);first|omega|(dsimp only at*;omega)|(simp_all;done)|(simp at*;omega)):Below B w w':=h.below hb hB
end
section
variable{P:Program}{ops:Array Oper}{R:World→World→Prop}{K:List Value→World→Prop}{r:List Oper}{rX:List (Oper×Kd)}{l l':List Value}{w:World}
theorem RS.nm(k:RS P ops K r l' w)(h:l=l':=by dsimp only[List.set]):RS P ops K r l w:=RS.norm h k
theorem RX.nm(k:RX P ops R K rX l' w)(h:l=l':=by dsimp only[List.set]):RX P ops R K rX l w:=RX.norm h k
variable{Q:Exit→Act→World→Prop}{l0:List Oper}{y:Code}{id j:Nat}{rest:List Oper}{restX:List (Oper×Kd)}{d:Option Tmp}{dd:Tmp}{op:Op}{ty:TypeId}{pos:String}{af:Array Edge}{t b:Bool}{x:Operand}{ki:IntKind}{i:Int}{ad:Option Addr}{nn cc:Nat}{arr:Array Value}{kd:Kd}
theorem sq(h:∀K:Act→World→Prop,(∀a w,y.wp P Q a w→K a w)→RS P l0.toArray (fun l w=>(Exit.then K Q) .normal (fr l) w) l0 l w):(Code.seq (.region id l0.toArray false) y).wp P Q (fr l) w:=wp_seq_k fun K hK=>region (h K hK)
theorem nl{K':Act→World→Prop}(hK:∀a w,y.wp P Q a w→K' a w)(k:y.wp P Q (fr l) w)(e:K' (fr l) w→K l w:=by exact fun h=>h):RS P ops K [] l w:=e (hK _ _ k)
theorem RS.skT(s:Nat)(k:RS P l0.toArray K rest l' w)(hj:(l0[j]?).bind (·.dst)=some s:=by rfl)(hl:l.getD s undef= .bool true:=by rfl)(hs:Nat.ble (s+1) l.length=true:=by rfl)(ht:t=false:=by rfl)(hp:putL d undef l=l':=by dsimp only[putL,List.set]):
  RS P l0.toArray K (⟨d,op,ty,pos,af,some (j,t)⟩::rest) l w:=by subst hp;subst ht;exact RS.skipB s hj hl hs rfl k
theorem RS.skF(s:Nat)(k:RS P l0.toArray K rest l' w)(hj:(l0[j]?).bind (·.dst)=some s:=by rfl)(hl:l.getD s undef= .bool false:=by rfl)(hs:Nat.ble (s+1) l.length=true:=by rfl)(ht:t=true:=by rfl)(hp:putL d undef l=l':=by dsimp only[putL,List.set]):
  RS P l0.toArray K (⟨d,op,ty,pos,af,some (j,t)⟩::rest) l w:=by subst hp;subst ht;exact RS.skipB s hj hl hs rfl k
theorem RX.skT(s:Nat)(k:RX P l0.toArray R K restX l' w)(hj:(l0[j]?).bind (·.dst)=some s:=by rfl)(hl:l.getD s undef= .bool true:=by rfl)(hs:Nat.ble (s+1) l.length=true:=by rfl)(ht:t=false:=by rfl)(hp:putL d undef l=l':=by dsimp only[putL,List.set]):
  RX P l0.toArray R K ((⟨d,op,ty,pos,af,some (j,t)⟩,kd)::restX) l w:=by subst hp;subst ht;exact RX.skipB s hj hl hs rfl k
theorem RX.skF(s:Nat)(k:RX P l0.toArray R K restX l' w)(hj:(l0[j]?).bind (·.dst)=some s:=by rfl)(hl:l.getD s undef= .bool false:=by rfl)(hs:Nat.ble (s+1) l.length=true:=by rfl)(ht:t=true:=by rfl)(hp:putL d undef l=l':=by dsimp only[putL,List.set]):
  RX P l0.toArray R K ((⟨d,op,ty,pos,af,some (j,t)⟩,kd)::restX) l w:=by subst hp;subst ht;exact RX.skipB s hj hl hs rfl k
theorem RS.wt(s:Nat)(k:RS P l0.toArray K (⟨d,op,ty,pos,af,none⟩::rest) l w)(hj:(l0[j]?).bind (·.dst)=some s:=by rfl)(hl:l.getD s undef= .bool t:=by rfl)(hs:Nat.ble (s+1) l.length=true:=by rfl):
  RS P l0.toArray K (⟨d,op,ty,pos,af,some (j,t)⟩::rest) l w:=RS.wantB s hj hl hs k
theorem RX.wt(s:Nat)(k:RX P l0.toArray R K ((⟨d,op,ty,pos,af,none⟩,kd)::restX) l w)(hj:(l0[j]?).bind (·.dst)=some s:=by rfl)(hl:l.getD s undef= .bool t:=by rfl)(hs:Nat.ble (s+1) l.length=true:=by rfl):
  RX P l0.toArray R K ((⟨d,op,ty,pos,af,some (j,t)⟩,kd)::restX) l w:=RX.wantB s hj hl hs k
theorem RS.mvI(hv:ev l x= .int ki i)(k:RS P ops K rest l' w)(hl:l.set dd (.int ki i)=l':=by dsimp only[List.set]):RS P ops K (⟨some dd, .move x,ty,pos,af,none⟩::rest) l w:=RS.move hv k hl
theorem RX.mvI(hv:ev l x= .int ki i)(k:RX P ops R K restX l' w)(hl:l.set dd (.int ki i)=l':=by dsimp only[List.set]):RX P ops R K ((⟨some dd, .move x,ty,pos,af,none⟩, .q)::restX) l w:=RX.move hv k hl
theorem RS.asI(hv:ev l x= .int ki i)(k:RS P ops K rest l' w)(hl:l.set dd (.int ki i)=l':=by dsimp only[List.set]):RS P ops K (⟨some dd, .assign x,ty,pos,af,none⟩::rest) l w:=RS.assign hv k hl
theorem RS.mvS(hv:ev l x= .slice ad nn cc)(k:RS P ops K rest l' w)(hl:l.set dd (.slice ad nn cc)=l':=by dsimp only[List.set]):RS P ops K (⟨some dd, .move x,ty,pos,af,none⟩::rest) l w:=RS.move hv k hl
theorem RX.mvS(hv:ev l x= .slice ad nn cc)(k:RX P ops R K restX l' w)(hl:l.set dd (.slice ad nn cc)=l':=by dsimp only[List.set]):RX P ops R K ((⟨some dd, .move x,ty,pos,af,none⟩, .q)::restX) l w:=RX.move hv k hl
theorem RS.asS(hv:ev l x= .slice ad nn cc)(k:RS P ops K rest l' w)(hl:l.set dd (.slice ad nn cc)=l':=by dsimp only[List.set]):RS P ops K (⟨some dd, .assign x,ty,pos,af,none⟩::rest) l w:=RS.assign hv k hl
theorem RS.mvB(hv:ev l x= .bool b)(k:RS P ops K rest l' w)(hl:l.set dd (.bool b)=l':=by dsimp only[List.set]):RS P ops K (⟨some dd, .move x,ty,pos,af,none⟩::rest) l w:=RS.move hv k hl
theorem RX.mvB(hv:ev l x= .bool b)(k:RX P ops R K restX l' w)(hl:l.set dd (.bool b)=l':=by dsimp only[List.set]):RX P ops R K ((⟨some dd, .move x,ty,pos,af,none⟩, .q)::restX) l w:=RX.move hv k hl
theorem RS.asB(hv:ev l x= .bool b)(k:RS P ops K rest l' w)(hl:l.set dd (.bool b)=l':=by dsimp only[List.set]):RS P ops K (⟨some dd, .assign x,ty,pos,af,none⟩::rest) l w:=RS.assign hv k hl
theorem RS.mvP(hv:ev l x= .pointer ad)(k:RS P ops K rest l' w)(hl:l.set dd (.pointer ad)=l':=by dsimp only[List.set]):RS P ops K (⟨some dd, .move x,ty,pos,af,none⟩::rest) l w:=RS.move hv k hl
theorem RX.mvP(hv:ev l x= .pointer ad)(k:RX P ops R K restX l' w)(hl:l.set dd (.pointer ad)=l':=by dsimp only[List.set]):RX P ops R K ((⟨some dd, .move x,ty,pos,af,none⟩, .q)::restX) l w:=RX.move hv k hl
variable{f:FuncId}{fn:Func}{c:Code}{args:List Value}{Re:Ending→World→Prop}
theorem enterU(u:Nat)(hf:P.funcs[f]? =some fn)(hb:fn.body=some c)(hu:fn.ntmps - args.length=u)(h:c.wp P (bodyPost P fn Re) (fr l) w)(hl:args++List.replicate u undef=l:=by dsimp only[List.reduceReplicate,List.cons_append,List.nil_append]):Calls P f args.toArray w Re:=enter hf hb (by rw[hu];exact hl) h
variable{q:Tmp}
theorem retI(hr:fn.results= #[.tmp q])(hv:l.getD q undef= .int ki i)(hR:Re (.returned (.int ki i)) w):bodyPost P fn Re .ret (fr l) w:=ret (rs:=[.tmp q]) (vs:=[.int ki i]) hr ⟨hv,trivial⟩ rfl hR
theorem retB(hr:fn.results= #[.tmp q])(hv:l.getD q undef= .bool b)(hR:Re (.returned (.bool b)) w):bodyPost P fn Re .ret (fr l) w:=ret (rs:=[.tmp q]) (vs:=[.bool b]) hr ⟨hv,trivial⟩ rfl hR
variable{ad2:Option Addr}{off bb oo oo2 sz n:Nat}{fs:Array Field}{f0:Field}{cs:List Value}{ed:TypeDesc}{T0:TypeId}{v:Value}{vs:List Value}{xt et s0:TypeId}{ki':IntKind}{aa cc':Int}{c1 x1 y1:Operand}{i1:Nat}{tv:Array Value}{tys:Array TypeId}{gg:Option (Nat×Bool)}
theorem RS.fl(off:Nat)(hu:P.underlying xt=some (.struct fs))(hf:fs[i1]? =some f0)(hs:P.cellsOf f0.type=sz)(k:RS P ops K rest (l.set dd (.pointer (some ⟨bb,off,none⟩))) w)(hx:ev l x= .pointer (some ⟨bb,oo,none⟩):=by rfl)(hz:sz≠0:=by decide)(ho:oo+f0.offset=off:=by rfl):
  RS P ops K (⟨some dd, .fieldAddr xt x i1,ty,pos,af,none⟩::rest) l w:=RS.o (D.fieldL off hx hu hf hs hz ho) k
theorem RX.fl(off:Nat)(hu:P.underlying xt=some (.struct fs))(hf:fs[i1]? =some f0)(hs:P.cellsOf f0.type=sz)(k:RX P ops R K restX (l.set dd (.pointer (some ⟨bb,off,none⟩))) w)(hx:ev l x= .pointer (some ⟨bb,oo,none⟩):=by rfl)(hz:sz≠0:=by decide)(ho:oo+f0.offset=off:=by rfl):
  RX P ops R K ((⟨some dd, .fieldAddr xt x i1,ty,pos,af,none⟩, .q)::restX) l w:=RX.o (fun _ _=>D.fieldL off hx hu hf hs hz ho) k
theorem RS.la(he:P.underlying xt=some ed)(hs:P.cellsOf xt=sz)(B:Blk w bb cs T0)(n:Nat)(k:RS P ops K rest (l.set dd (.agg vs.toArray)) w)(hx:ev l x= .pointer (some ⟨bb,oo,none⟩):=by rfl)(hv:(cs.drop oo).take n=vs:=by rfl)(hd:isAggD ed=true:=by rfl)(hz:sz≠0:=by decide)(hn:vs.length=sz:=by rfl):
  RS P ops K (⟨some dd, .load xt x,ty,pos,af,none⟩::rest) l w:=RS.o (D.loadAgg hx he hd hs hz hn (B.cellsN n hv)) k
theorem RS.sa(hs:P.cellsOf xt=sz)(hB:Blk w bb cs T0)(k:∀w',St bb w w'→Blk w' bb (splice cs oo vs) T0→RS P ops K rest l w')(hx:ev l x= .pointer (some ⟨bb,oo,none⟩):=by rfl)(hy:ev l y1= .agg vs.toArray:=by rfl)(hz:sz≠0:=by decide)(hn:vs.length=sz:=by rfl)(hv:vs.all cellB=true:=by rfl)(ho:Nat.ble (oo+sz) cs.length=true:=by rfl):
  RS P ops K (⟨none, .store xt x y1,ty,pos,af,none⟩::rest) l w:=RS.storeAggB hx hy hs hz hn hv hB ho k
theorem RS.ld(he:P.underlying xt=some ed)(B:Blk w bb cs T0)(k:RS P ops K rest (l.set dd v) w)(hx:ev l x= .pointer (some ⟨bb,oo,none⟩):=by rfl)(hv:cs[oo]? =some v:=by rfl)(hd:isAggD ed=false:=by rfl):
  RS P ops K (⟨some dd, .load xt x,ty,pos,af,none⟩::rest) l w:=RS.o (D.load hx he hd (B.cell hv)) k
theorem RS.ln(hu:P.underlying xt=some (.slice et))(k:RS P ops K rest (l.set dd (.int .i64 nn)) w)(hx:ev l x= .slice ad nn cc:=by rfl):
  RS P ops K (⟨some dd, .call {callee:= .builtin .len,args:= #[x],argTypes:= #[xt]},ty,pos,af,none⟩::rest) l w:=RS.o (D.len hx hu) k
theorem RS.exI(k:RS P ops K rest l' w)(hx:ev l x= .tuple tv:=by rfl)(hv:tv[i1]? =some (.int ki i):=by rfl)(hl:l.set dd (.int ki i)=l':=by dsimp only[List.set]):RS P ops K (⟨some dd, .extract x i1,ty,pos,af,none⟩::rest) l w:=RS.extract hx hv k hl
theorem RS.exS(k:RS P ops K rest l' w)(hx:ev l x= .tuple tv:=by rfl)(hv:tv[i1]? =some (.slice ad nn cc):=by rfl)(hl:l.set dd (.slice ad nn cc)=l':=by dsimp only[List.set]):RS P ops K (⟨some dd, .extract x i1,ty,pos,af,none⟩::rest) l w:=RS.extract hx hv k hl
theorem RS.exA(k:RS P ops K rest l' w)(hx:ev l x= .tuple tv:=by rfl)(hv:tv[i1]? =some (.agg arr):=by rfl)(hl:l.set dd (.agg arr)=l':=by dsimp only[List.set]):RS P ops K (⟨some dd, .extract x i1,ty,pos,af,none⟩::rest) l w:=RS.extract hx hv k hl
theorem RS.pk(k:RS P ops K rest l' w)(hc:ev l c1= .bool t:=by rfl)(hv:(if t then ev l x1 else ev l y1)= .bool b:=by rfl)(hl:l.set dd (.bool b)=l':=by dsimp only[List.set]):RS P ops K (⟨some dd, .pick c1 x1 y1,ty,pos,af,none⟩::rest) l w:=RS.pick hc hv k hl
theorem RS.pkt(k:RS P ops K rest l' w)(hc:ev l c1= .bool t:=by rfl)(hv:(if t then ev l x1 else ev l y1)= .bool true:=by rfl)(hl:l.set dd (.bool true)=l':=by dsimp only[List.set]):RS P ops K (⟨some dd, .pick c1 x1 y1,ty,pos,af,none⟩::rest) l w:=RS.pick hc hv k hl
theorem RS.pkf(k:RS P ops K rest l' w)(hc:ev l c1= .bool t:=by rfl)(hv:(if t then ev l x1 else ev l y1)= .bool false:=by rfl)(hl:l.set dd (.bool false)=l':=by dsimp only[List.set]):RS P ops K (⟨some dd, .pick c1 x1 y1,ty,pos,af,none⟩::rest) l w:=RS.pick hc hv k hl
theorem retS{q0:Tmp}{a0:Option Addr}{n0 c0:Nat}(hR:Re (.returned (.slice a0 n0 c0)) w)(hr:fn.results= #[.tmp q0]:=by rfl)(h0:l.getD q0 undef= .slice a0 n0 c0:=by rfl):bodyPost P fn Re .ret (fr l) w:=ret (rs:=[.tmp q0]) (vs:=[.slice a0 n0 c0]) hr ⟨h0,trivial⟩ rfl hR
theorem retA{q0:Tmp}{p0:TypeId}{cs0 vs0:List Value}{T0:TypeId}{d0:TypeDesc}{b0 o0 z0:Nat}(u0:P.underlying p0=some d0)(s0:P.cellsOf p0=z0)(B0:Blk w b0 cs0 T0)(m0:Nat)(hR:Re (.returned (.agg vs0.toArray)) w)(hr:fn.results= #[.cell q0 p0]:=by rfl)(h0:l.getD q0 undef= .pointer (some ⟨b0,o0,none⟩):=by rfl)(g0:(cs0.drop o0).take m0=vs0:=by rfl)(e0:isAggD d0=true:=by rfl)(y0:z0≠0:=by decide)(x0:vs0.length=z0:=by rfl):bodyPost P fn Re .ret (fr l) w:=ret (rs:=[.cell q0 p0]) (vs:=[.agg vs0.toArray]) hr ⟨⟨_,h0,loadVar_agg u0 e0 s0 y0 x0 (B0.cellsN m0 g0)⟩,trivial⟩ rfl hR
theorem retAI{q0:Tmp}{p0:TypeId}{cs0 vs0:List Value}{T0:TypeId}{d0:TypeDesc}{b0 o0 z0:Nat}{q1:Tmp}{k1:IntKind}{i1:Int}(u0:P.underlying p0=some d0)(s0:P.cellsOf p0=z0)(B0:Blk w b0 cs0 T0)(m0:Nat)(hR:Re (.returned (.tuple #[.agg vs0.toArray, .int k1 i1])) w)(hr:fn.results= #[.cell q0 p0, .tmp q1]:=by rfl)(h0:l.getD q0 undef= .pointer (some ⟨b0,o0,none⟩):=by rfl)(g0:(cs0.drop o0).take m0=vs0:=by rfl)(e0:isAggD d0=true:=by rfl)(y0:z0≠0:=by decide)(x0:vs0.length=z0:=by rfl)(h1:l.getD q1 undef= .int k1 i1:=by rfl):bodyPost P fn Re .ret (fr l) w:=ret (rs:=[.cell q0 p0, .tmp q1]) (vs:=[.agg vs0.toArray, .int k1 i1]) hr ⟨⟨_,h0,loadVar_agg u0 e0 s0 y0 x0 (B0.cellsN m0 g0)⟩,h1,trivial⟩ rfl hR
theorem retSI{q0:Tmp}{a0:Option Addr}{n0 c0:Nat}{q1:Tmp}{k1:IntKind}{i1:Int}(hR:Re (.returned (.tuple #[.slice a0 n0 c0, .int k1 i1])) w)(hr:fn.results= #[.tmp q0, .tmp q1]:=by rfl)(h0:l.getD q0 undef= .slice a0 n0 c0:=by rfl)(h1:l.getD q1 undef= .int k1 i1:=by rfl):bodyPost P fn Re .ret (fr l) w:=ret (rs:=[.tmp q0, .tmp q1]) (vs:=[.slice a0 n0 c0, .int k1 i1]) hr ⟨h0,h1,trivial⟩ rfl hR
theorem retII{q0:Tmp}{k0:IntKind}{i0:Int}{q1:Tmp}{k1:IntKind}{i1:Int}(hR:Re (.returned (.tuple #[.int k0 i0, .int k1 i1])) w)(hr:fn.results= #[.tmp q0, .tmp q1]:=by rfl)(h0:l.getD q0 undef= .int k0 i0:=by rfl)(h1:l.getD q1 undef= .int k1 i1:=by rfl):bodyPost P fn Re .ret (fr l) w:=ret (rs:=[.tmp q0, .tmp q1]) (vs:=[.int k0 i0, .int k1 i1]) hr ⟨h0,h1,trivial⟩ rfl hR
variable{u0 w':World}{S0 T1:Nat→Prop}{lo B0 nz szz mz cz:Nat}{az:Option Addr}{xz:List Int}{ez:TypeId}
theorem IRow.prQ(h:IRow ki S0 w az nz xz)(x:Pr T1 w w')(q:∀k,T1 k→lo≤k)(hn:∀b,S0 b→lo≤b→False:=by intros;try (first|(intro _ _)|(intro _)|skip);first|omega|(dsimp only at*;omega)|(simp_all;done)|(simp at*;omega)):IRow ki S0 w' az nz xz:=h.pr x fun b h1 h2=>hn b h1 (q b h2)
theorem WRow.prQ(h:WRow ki szz S0 w az nz xz)(x:Pr T1 w w')(q:∀k,T1 k→lo≤k)(hn:∀b,S0 b→lo≤b→False:=by intros;try (first|(intro _ _)|(intro _)|skip);first|omega|(dsimp only at*;omega)|(simp_all;done)|(simp at*;omega)):WRow ki szz S0 w' az nz xz:=h.pr x fun b h1 h2=>hn b h1 (q b h2)
theorem Blk.prQ(h:Blk w bb cs T0)(x:Pr T1 w w')(q:∀k,T1 k→lo≤k)(hn:¬lo≤bb:=by intros;try (first|(intro _ _)|(intro _)|skip);first|omega|(dsimp only at*;omega)|(simp_all;done)|(simp at*;omega)):Blk w' bb cs T0:=h.pr x fun h=>hn (q _ h)
theorem IArr.prQ(h:IArr ki w bb nz xz vs T0)(x:Pr T1 w w')(q:∀k,T1 k→lo≤k)(hn:¬lo≤bb:=by intros;try (first|(intro _ _)|(intro _)|skip);first|omega|(dsimp only at*;omega)|(simp_all;done)|(simp at*;omega)):IArr ki w' bb nz xz vs T0:=h.pr x fun h=>hn (q _ h)
theorem KArr.prQ(h:KArr ki w bb nz xz T0)(x:Pr T1 w w')(q:∀k,T1 k→lo≤k)(hn:¬lo≤bb:=by intros;try (first|(intro _ _)|(intro _)|skip);first|omega|(dsimp only at*;omega)|(simp_all;done)|(simp at*;omega)):KArr ki w' bb nz xz T0:=h.pr x fun h=>hn (q _ h)
theorem IOwn.prQ(h:IOwn mz w ez ki az nz cz xz)(x:Pr T1 w w')(q:∀k,obk az=Option.some k→lo≤k)(hn:∀b,lo≤b→T1 b→False:=by intros;try (first|(intro _ _)|(intro _)|skip);first|omega|(dsimp only at*;omega)|(simp_all;done)|(simp at*;omega)):IOwn mz w' ez ki az nz cz xz:=h.pr x fun b h1 h2=>hn b (q b h1) h2
theorem IOwn.stQ(h:IOwn mz w ez ki az nz cz xz)(x:St bb w w')(q:∀k,obk az=Option.some k→lo≤k)(hn:¬lo≤bb:=by intros;try (first|(intro _ _)|(intro _)|skip);first|omega|(dsimp only at*;omega)|(simp_all;done)|(simp at*;omega)):IOwn mz w' ez ki az nz cz xz:=h.st x fun h=>hn (q _ h)
theorem WOwn.prQ(h:WOwn mz w ez ki szz az nz cz xz)(x:Pr T1 w w')(q:∀k,obk az=Option.some k→lo≤k)(hn:∀b,lo≤b→T1 b→False:=by intros;try (first|(intro _ _)|(intro _)|skip);first|omega|(dsimp only at*;omega)|(simp_all;done)|(simp at*;omega)):WOwn mz w' ez ki szz az nz cz xz:=h.pr x fun b h1 h2=>hn b (q b h1) h2
theorem WOwn.stQ(h:WOwn mz w ez ki szz az nz cz xz)(x:St bb w w')(q:∀k,obk az=Option.some k→lo≤k)(hn:¬lo≤bb:=by intros;try (first|(intro _ _)|(intro _)|skip);first|omega|(dsimp only at*;omega)|(simp_all;done)|(simp at*;omega)):WOwn mz w' ez ki szz az nz cz xz:=h.st x fun h=>hn (q _ h)
theorem Pr.belQ(h:Pr T1 w w')(q:∀k,T1 k→lo≤k)(hb:B0≤lo:=by intros;try (first|(intro _ _)|(intro _)|skip);first|omega|(dsimp only at*;omega)|(simp_all;done)|(simp at*;omega))(hB:B0≤w.heap.size:=by intros;try (first|(intro _ _)|(intro _)|skip);first|omega|(dsimp only at*;omega)|(simp_all;done)|(simp at*;omega)):Below B0 w w':=h.below (fun k hk=>Nat.le_trans hb (q k hk)) hB
theorem Pr.prnQ(h:Pr S0 u0 w)(x:Pr T1 w w')(q:∀k,T1 k→lo≤k)(hn:∀k,lo≤k→S0 k∨u0.heap.size≤k:=by intros;try (first|(intro _ _)|(intro _)|skip);first|omega|(dsimp only at*;omega)|(simp_all;done)|(simp at*;omega)):Pr S0 u0 w':=h.prn x fun k hk=>hn k (q k hk)
theorem wx{x0:Code}{Q0:Exit→Act→World→Prop}{y:Code}{a:Act}(k:∀K:Act→World→Prop,(∀a w,y.wp P Q0 a w→K a w)→x0.wp P (Exit.then K Q0) a w):(Code.seq x0 y).wp P Q0 a w:=wp_seq_k k
theorem C.nmU{x0:Code}{Q0:Exit→Act→World→Prop}(k:x0.wp P Q0 (fr l') w)(h:l=l':=by simp only[upd,junk,List.map_cons,List.map_nil,List.set_cons_succ,List.set_cons_zero];exact rfl):x0.wp P Q0 (fr l) w:=C.norm h k
theorem RS.nmF(k:RS P ops K r l' w)(h:l=l':=by simp only[FF,upd,List.map_cons,List.map_nil,List.set_cons_succ,List.set_cons_zero,List.getD_cons_zero,List.getD_cons_succ];exact rfl):RS P ops K r l w:=RS.norm h k
variable{b1 by0 tt:Nat}{z0:List Value}{x2:Operand}{j1:Int}{kj:IntKind}{ys:List Int}
theorem RS.bs1(hu:P.underlying tt=some (.slice et))(ht:TI P et 1 by0 z0)(k:∀b w',w.heap.size=b→w'.heap.size=b+1→Ext w w'→Blk w' b [.int ki i] et→RS P ops K rest (l.set dd (.slice (some ⟨b,0,none⟩) 1 1)) w')(hx:ev l x= .int ki i:=by rfl):
  RS P ops K (⟨some dd, .buildSlice tt 1 #[(0,x)],ty,pos,af,none⟩::rest) l w:=RS.buildSlice (xs:=[x]) (vs:=[.int ki i]) (cs:=[.int ki i]) hu ht (by decide) rfl rfl rfl (by rw[List.map_cons,hx];rfl) rfl rfl (by intro v hv;simp only[List.mem_cons,List.not_mem_nil,or_false]at hv;subst hv;rfl) rfl k
theorem RS.bs2(hu:P.underlying tt=some (.slice et))(ht:TI P et 1 by0 z0)(k:∀b w',w.heap.size=b→w'.heap.size=b+1→Ext w w'→Blk w' b [.int ki i, .int kj j1] et→RS P ops K rest (l.set dd (.slice (some ⟨b,0,none⟩) 2 2)) w')(hx:ev l x= .int ki i:=by rfl)(hy:ev l x2= .int kj j1:=by rfl):
  RS P ops K (⟨some dd, .buildSlice tt 2 #[(0,x),(1,x2)],ty,pos,af,none⟩::rest) l w:=RS.buildSlice (xs:=[x,x2]) (vs:=[.int ki i, .int kj j1]) (cs:=[.int ki i, .int kj j1]) hu ht (by decide) rfl rfl rfl (by rw[List.map_cons,List.map_cons,hx,hy];rfl) rfl rfl (by intro v hv;simp only[List.mem_cons,List.not_mem_nil,or_false]at hv;rcases hv with rfl|rfl<;>rfl) rfl k
theorem RS.sr{tl:List Value}{xs:List Int}(hA:IArr ki w b1 n xs tl T0)(hs:P.cellsOf xt=n)(k:∀w',St b1 w w'→IArr ki w' b1 n ys tl T0→RS P ops K rest l w')(hx:ev l x= .pointer (some ⟨b1,0,none⟩):=by rfl)(hy:ev l y1= .agg (ints ki ys).toArray:=by rfl)(hn:n≠0:=by decide)(hl:ys.length=n:=by first|assumption|exact And.left (by assumption)|exact IArr.len (by assumption))(hb:Bd ki ys:=by first|assumption|exact And.right (by assumption)|exact IArr.bd (by assumption)):
  RS P ops K (⟨none, .store xt x y1,ty,pos,af,none⟩::rest) l w:=RS.storeArr hA hx hy hs hn hl hb k
variable{y0:Code}{a b cv:Int}{x y:Operand}{yt:TypeId}
theorem RS.ol(k:RS P ops K rest l' w)(hx:ev l x= .int ki a:=by rfl)(hy:ev l y= .int ki b:=by rfl)(hl:l.set dd (.bool (decide (a<b)))=l':=by dsimp only[List.set]):RS P ops K (⟨some dd, .binOp .lss xt x y yt,ty,pos,af,none⟩::rest) l w:=RS.o (D.lt hx hy) k hl
theorem RS.oq(k:RS P ops K rest l' w)(hx:ev l x= .int ki a:=by rfl)(hy:ev l y= .int ki b:=by rfl)(hl:l.set dd (.bool (a==b))=l':=by dsimp only[List.set]):RS P ops K (⟨some dd, .binOp .eql xt x y yt,ty,pos,af,none⟩::rest) l w:=RS.o (D.eq hx hy) k hl
theorem RS.on(k:RS P ops K rest l' w)(hx:ev l x= .int ki a:=by rfl)(hy:ev l y= .int ki b:=by rfl)(hl:l.set dd (.bool (a != b))=l':=by dsimp only[List.set]):RS P ops K (⟨some dd, .binOp .neq xt x y yt,ty,pos,af,none⟩::rest) l w:=RS.o (D.ne hx hy) k hl
theorem RS.og(k:RS P ops K rest l' w)(hx:ev l x= .int ki a:=by rfl)(hy:ev l y= .int ki b:=by rfl)(hl:l.set dd (.bool (decide (b<a)))=l':=by dsimp only[List.set]):RS P ops K (⟨some dd, .binOp .gtr xt x y yt,ty,pos,af,none⟩::rest) l w:=RS.o (D.gt hx hy) k hl
theorem RS.oe(k:RS P ops K rest l' w)(hx:ev l x= .int ki a:=by rfl)(hy:ev l y= .int ki b:=by rfl)(hl:l.set dd (.bool (decide (b≤a)))=l':=by dsimp only[List.set]):RS P ops K (⟨some dd, .binOp .geq xt x y yt,ty,pos,af,none⟩::rest) l w:=RS.o (D.ge hx hy) k hl
theorem RS.adi(k:RS P ops K rest l' w)(hx:ev l x= .int .i64 a:=by rfl)(hy:ev l y= .int .i64 b:=by rfl)(h: -9223372036854775808≤a+b∧a+b≤9223372036854775807:=by omega)(hl:l.set dd (.int .i64 (a+b))=l':=by dsimp only[List.set]):RS P ops K (⟨some dd, .binOp .add xt x y yt,ty,pos,af,none⟩::rest) l w:=RS.o (D.add hx hy (W.i64 h)) k hl
theorem RS.cu{s:TypeId}{sd:TypeDesc}(hs:P.underlying s=some sd)(hu:P.underlying xt=some (.int .u8))(k:RS P ops K rest l' w)(hx:ev l x= .int ki a:=by rfl)(h:0≤a∧a≤255:=by omega)(hl:l.set dd (.int .u8 a)=l':=by dsimp only[List.set]):RS P ops K (⟨some dd, .convert s xt x,ty,pos,af,none⟩::rest) l w:=RS.o (D.conv hx hs hu (W.u8 h)) k hl
theorem RS.cw{s:TypeId}{sd:TypeDesc}(hs:P.underlying s=some sd)(hu:P.underlying xt=some (.int .u64))(k:RS P ops K rest l' w)(hx:ev l x= .int ki a:=by rfl)(h:0≤a∧a≤18446744073709551615:=by omega)(hl:l.set dd (.int .u64 a)=l':=by dsimp only[List.set]):RS P ops K (⟨some dd, .convert s xt x,ty,pos,af,none⟩::rest) l w:=RS.o (D.conv hx hs hu (W.u64 h)) k hl
theorem RX.lh{p:Addr}(he:P.underlying xt=some ed)(h:∀w',R w w'→w'.cell? p=some v)(k:RX P ops R K restX l' w)(hx:ev l x= .pointer (some p):=by rfl)(hd:isAggD ed=false:=by rfl)(hl:l.set dd v=l':=by dsimp only[List.set]):RX P ops R K ((⟨some dd, .load xt x,ty,pos,af,none⟩, .q)::restX) l w:=RX.o (fun w' hw=>D.load hx he hd (h w' hw)) k hl
theorem sAI(hv:ev l x= .int ki i)(k:y0.wp P Q (fr l') w)(hl:l.set dd (.int ki i)=l':=by dsimp only[List.set]):(Code.seq (.region id #[⟨some dd, .assign x,ty,pos,af,none⟩] false) y0).wp P Q (fr l) w:=sq fun _ J=>RS.asI hv (nl J k) hl
theorem sAS(hv:ev l x= .slice ad nn cc)(k:y0.wp P Q (fr l') w)(hl:l.set dd (.slice ad nn cc)=l':=by dsimp only[List.set]):(Code.seq (.region id #[⟨some dd, .assign x,ty,pos,af,none⟩] false) y0).wp P Q (fr l) w:=sq fun _ J=>RS.asS hv (nl J k) hl
theorem sAB(hv:ev l x= .bool t)(k:y0.wp P Q (fr l') w)(hl:l.set dd (.bool t)=l':=by dsimp only[List.set]):(Code.seq (.region id #[⟨some dd, .assign x,ty,pos,af,none⟩] false) y0).wp P Q (fr l) w:=sq fun _ J=>RS.asB hv (nl J k) hl
theorem rI{v0:World}(hE:Ext v0 w)(h:i=a)(hr:fn.results= #[.tmp q]:=by rfl)(hv:l.getD q undef= .int ki i:=by rfl):bodyPost P fn (Ret v0 fun v _=>v= .int ki a) .ret (fr l) w:=retI hr hv ⟨_,rfl,hE,congrArg (Value.int ki) h⟩
theorem eE(u:Nat)(hf:P.funcs[f]? =some fn)(hb:fn.body=some c)(hu:fn.ntmps - args.length=u)(h:Ext w w→c.wp P (bodyPost P fn Re) (fr l) w)(hl:args++List.replicate u undef=l:=by dsimp only[List.reduceReplicate,List.cons_append,List.nil_append]):Calls P f args.toArray w Re:=enterU u hf hb hu (h (Ext.refl w)) hl
end
end G
namespace S
def pw(a n m:Int):Int:=a ^ n.toNat % m
theorem pw_nonneg(a n m:Int)(hm:0<m):0≤pw a n m:=Int.emod_nonneg _ (by omega)
theorem pw_lt(a n m:Int)(hm:0<m):pw a n m<m:=Int.emod_lt_of_pos _ hm
theorem mul32{a b:Int}(ha:0≤a∧a<4294967296)(hb:0≤b∧b<4294967296):0≤a*b∧a*b<18446744073709551616:=by
 refine⟨Int.mul_nonneg ha.1 hb.1,?_⟩;have h1:a*b≤4294967295*b:=Int.mul_le_mul_of_nonneg_right (by omega) hb.1;omega
def isG(a:Int):Bool:=decide (0<a)&&(decide (a<1000000007)&&(pw a 500000003 1000000007==1))
theorem pow_half(a:Int)(n:Nat):a ^ n=(a*a) ^ (n / 2)*a ^ (n % 2):=by
 have h:n=2*(n / 2)+n % 2:=by omega
 have e:(a*a)=a ^ 2:=by rw[Int.pow_succ,Int.pow_succ,Int.pow_zero,Int.one_mul]
 conv=>lhs;rw[h]
 rw[Int.pow_add,Int.pow_mul,e]
theorem mod_pow(a m:Int)(n:Nat):(a % m) ^ n % m=a ^ n % m:=by
 induction n with
 |zero=>rw[Int.pow_zero,Int.pow_zero]
 |succ n ih=>rw[Int.pow_succ,Int.pow_succ,Int.mul_emod,ih,Int.emod_emod_of_dvd _ (Int.dvd_refl m),←Int.mul_emod]
theorem power_odd(a r m:Int)(n:Int)(hn:0≤n)(ho:n % 2=1):(r*a % m)*(a*a % m) ^ (n / 2).toNat % m=r*a ^ n.toNat % m:=by
 have h2:n.toNat % 2=1:=by omega
 have h3:(n / 2).toNat=n.toNat / 2:=by omega
 rw[Int.mul_emod,mod_pow,Int.emod_emod_of_dvd _ (Int.dvd_refl m),←Int.mul_emod,pow_half a n.toNat,h2,h3];congr 1;rw[Int.pow_succ,Int.pow_zero,Int.one_mul,Int.mul_assoc,Int.mul_comm a]
theorem power_even(a r m:Int)(n:Int)(hn:0≤n)(ho:¬n % 2=1):r*(a*a % m) ^ (n / 2).toNat % m=r*a ^ n.toNat % m:=by
 have h2:n.toNat % 2=0:=by omega
 have h3:(n / 2).toNat=n.toNat / 2:=by omega
 rw[Int.mul_emod,mod_pow,←Int.mul_emod,pow_half a n.toNat,h2,h3,Int.pow_zero,Int.mul_one]
def hi64(n:Int)(k:Nat):Int:=n / 2 ^ (64 - k)
theorem hi64_zero(n:Int)(h:0≤n∧n<18446744073709551616):hi64 n 0=0:=by
  unfold hi64
  exact Int.ediv_eq_zero_of_lt h.1 (by have : (2 : Int) ^ (64 - 0) = 18446744073709551616 := by decide
                                       rw [this]; exact h.2)
theorem hi64_all(n:Int):hi64 n 64=n:=by unfold hi64;simp
theorem hi64_succ(n:Int)(k:Nat)(_h0:0≤n)(hk:k<64):hi64 n (k+1)=2*hi64 n k+n / 2 ^ (63 - k) % 2:=by
 unfold hi64;have e:64 - k=(63 - k)+1:=by omega
 rw[show 64 - (k+1)=63 - k by omega,e,Int.pow_succ,←Int.ediv_ediv_of_nonneg (Int.pow_nonneg (by decide))];omega
theorem hi64_nonneg(n:Int)(k:Nat)(h0:0≤n):0≤hi64 n k:=Int.ediv_nonneg h0 (Int.pow_nonneg (by decide))
theorem pw_step_one(a n m:Int)(k:Nat)(h0:0≤n)(hk:k<64)(hb:n / 2 ^ (63 - k) % 2=1):pw a (hi64 n k) m*pw a (hi64 n k) m % m*a % m=pw a (hi64 n (k+1)) m:=by
 have h:=hi64_nonneg n k h0;unfold pw;rw[hi64_succ n k h0 hk,hb,show(2*hi64 n k+1).toNat=(hi64 n k).toNat+(hi64 n k).toNat+1 by omega,Int.pow_succ,Int.pow_add,←Int.mul_emod,Int.mul_emod,Int.emod_emod_of_dvd _ (Int.dvd_refl m),←Int.mul_emod]
theorem pw_step_zero(a n m:Int)(k:Nat)(h0:0≤n)(hk:k<64)(hb:n / 2 ^ (63 - k) % 2=0):pw a (hi64 n k) m*pw a (hi64 n k) m % m=pw a (hi64 n (k+1)) m:=by
 have h:=hi64_nonneg n k h0;unfold pw;rw[hi64_succ n k h0 hk,hb,show(2*hi64 n k+0).toNat=(hi64 n k).toNat+(hi64 n k).toNat by omega,Int.pow_add,←Int.mul_emod]
theorem iand_one(a:Int)(h:0≤a):G.iand a 1=a % 2:=by
 unfold G.iand;rw[show(1:Int).toNat=1 from rfl,Nat.and_one_is_mod];omega
theorem shr_bd{a M:Int}(k:Nat)(h:0≤a∧a<M):0≤a / 2 ^ k∧a / 2 ^ k<M:=by
 have hp:(0:Int)≤2 ^ k:=Int.pow_nonneg (by decide);have h1:=Int.ediv_nonneg h.1 hp;have h2:=Int.ediv_le_self (2 ^ k) h.1;omega
theorem bit_one(n i:Int)(hn:0≤n)(hi:0≤i∧i<64)(h:G.iand (n / 2 ^ (63 - i).toNat) 1=1):n / 2 ^ (63 - i.toNat) % 2=1:=by
 rw[iand_one _ (Int.ediv_nonneg hn (Int.pow_nonneg (by decide))),show(63 - i).toNat=63 - i.toNat by omega]at h;exact h
theorem bit_zero(n i:Int)(hn:0≤n)(hi:0≤i∧i<64)(h:¬G.iand (n / 2 ^ (63 - i).toNat) 1=1):n / 2 ^ (63 - i.toNat) % 2=0:=by
 rw[iand_one _ (Int.ediv_nonneg hn (Int.pow_nonneg (by decide))),show(63 - i).toNat=63 - i.toNat by omega]at h;omega
def mulf(m:Int)(xs:List Int):Int:=xs.foldl (fun o x=>o*x % m) 1
theorem mulf_succ(m:Int)(xs:List Int)(k:Nat)(h:k<xs.length):mulf m (xs.take (k+1))=mulf m (xs.take k)*xs.getD k 0 % m:=by
 rw[List.take_succ_eq_append_getElem h,mulf,List.foldl_append];simp[mulf,List.getD_eq_getElem?_getD,List.getElem?_eq_getElem h]
theorem mulf_two(m x y:Int):mulf m [x,y]=x*y % m:=by
 simp only[mulf,List.foldl,Int.one_mul];rw[Int.mul_emod,Int.emod_emod_of_dvd _ (Int.dvd_refl m),←Int.mul_emod]
def allG(xs:List Int):Bool:=xs.all isG
theorem allG_take(xs:List Int)(k:Nat)(h:k<xs.length)(ht:allG (xs.take k)=true):allG (xs.take (k+1))=isG (xs.getD k 0):=by
 unfold allG at*;rw[List.take_succ_eq_append_getElem h,List.all_append,ht];simp[List.getD_eq_getElem?_getD,List.getElem?_eq_getElem h]
theorem allG_false(xs:List Int)(k:Nat)(h:k<xs.length)(hf:isG (xs.getD k 0)=false):allG xs=false:=by
 unfold allG;rw[List.all_eq_false];refine⟨xs[k],List.getElem_mem h,?_⟩;rw[List.getD_eq_getElem?_getD,List.getElem?_eq_getElem h]at hf;simpa using hf
theorem isG_true{a:Int}(h1:0<a)(h2:a<1000000007):isG a=(pw a 500000003 1000000007==1):=by simp[isG,h1,h2]
theorem isG_lo{a:Int}(h1:¬0<a):isG a=false:=by simp[isG,h1]
theorem isG_hi{a:Int}(h1:¬a<1000000007):isG a=false:=by simp[isG,h1]
theorem allG_one(a:Int):allG [a]=isG a:=by simp[allG]
theorem allG_two(a b:Int):allG [a,b]=(isG a&&isG b):=by simp[allG]
theorem isG_bd{a:Int}(h:isG a=true):0<a∧a<1000000007:=by
 simp[isG]at h;exact⟨h.1,h.2.1⟩
end S
namespace S
open G
def rotr(x n:Int):Int:=ior (x / 2 ^ n.toNat) (x*2 ^ (32 - n).toNat % 4294967296)
theorem ior_comm(a b:Int):ior a b=ior b a:=by unfold ior;rw[Nat.or_comm]
theorem rotr_bd(x n:Int)(hx:0≤x∧x<4294967296):0≤rotr x n∧rotr x n<4294967296:=
 or_nat _ _ 32 (shr_nat x _ n.toNat hx) ⟨Int.emod_nonneg _ (by decide),Int.emod_lt_of_pos _ (by decide)⟩
theorem rot_amt(n:Int)(h:0<n∧n<32):iand (-n % 18446744073709551616) 31=32 - n:=by
 have e: -n % 18446744073709551616=18446744073709551616 - n:=by omega
 have h31:(31:Int).toNat=2 ^ 5 - 1:=rfl;unfold iand;rw[e,h31,Nat.and_two_pow_sub_one_eq_mod];omega
theorem rotr_eq(x n:Int)(_h:0<n∧n<32):ior (x*2 ^ (32 - n).toNat % 4294967296) (x / 2 ^ (32 - (32 - n)).toNat)=rotr x n:=by
 rw[ior_comm,show 32 - (32 - n)=n by omega];rfl
def mix(x i j k:Int):Int:=ixor (ixor (rotr x i) (rotr x j)) (rotr x k)
theorem mix_bd(x i j k:Int)(hx:0≤x∧x<4294967296):0≤mix x i j k∧mix x i j k<4294967296:=
 xor_nat _ _ 32 (xor_nat _ _ 32 (rotr_bd x i hx) (rotr_bd x j hx)) (rotr_bd x k hx)
def IV:List Int:=[1779033703,3144134277,1013904242,2773480762,1359893119,2600822924,528734635,1541459225]
def KK : List Int := [
 0x428a2f98, 0x71374491, 0xb5c0fbcf, 0xe9b5dba5, 0x3956c25b, 0x59f111f1, 0x923f82a4, 0xab1c5ed5,
 0xd807aa98, 0x12835b01, 0x243185be, 0x550c7dc3, 0x72be5d74, 0x80deb1fe, 0x9bdc06a7, 0xc19bf174,
 0xe49b69c1, 0xefbe4786, 0x0fc19dc6, 0x240ca1cc, 0x2de92c6f, 0x4a7484aa, 0x5cb0a9dc, 0x76f988da,
 0x983e5152, 0xa831c66d, 0xb00327c8, 0xbf597fc7, 0xc6e00bf3, 0xd5a79147, 0x06ca6351, 0x14292967,
 0x27b70a85, 0x2e1b2138, 0x4d2c6dfc, 0x53380d13, 0x650a7354, 0x766a0abb, 0x81c2c92e, 0x92722c85,
 0xa2bfe8a1, 0xa81a664b, 0xc24b8b70, 0xc76c51a3, 0xd192e819, 0xd6990624, 0xf40e3585, 0x106aa070,
 0x19a4c116, 0x1e376c08, 0x2748774c, 0x34b0bcb5, 0x391c0cb3, 0x4ed8aa4a, 0x5b9cca4f, 0x682e6ff3,
 0x748f82ee, 0x78a5636f, 0x84c87814, 0x8cc70208, 0x90befffa, 0xa4506ceb, 0xbef9a3f7, 0xc67178f2]
def be(xs:List Int):Int:=xs.foldl (fun a x=>a*256+x) 0
theorem be_snoc(xs:List Int)(x:Int):be (xs++[x])=be xs*256+x:=by simp[be,List.foldl_append]
theorem be_go:∀(xs:List Int) (a:Int),0≤a→Bd .u8 xs→0≤xs.foldl (fun a x=>a*256+x) a∧xs.foldl (fun a x=>a*256+x) a<(a+1)*256 ^ xs.length
 |[],a,ha,_=>by simp;omega
 |x::xs,a,ha,h=>by
  have h2:=h x (by simp);simp only[lim]at h2;have ih:=be_go xs (a*256+x) (by omega) (fun y hy=>h y (by simp[hy]));refine⟨ih.1,Int.lt_of_lt_of_le ih.2 ?_⟩;rw[List.length_cons,Int.pow_succ,Int.mul_comm (256 ^ xs.length),←Int.mul_assoc];exact Int.mul_le_mul_of_nonneg_right (by omega) (Int.pow_nonneg (by decide))
theorem be_bd(xs:List Int)(h:Bd .u8 xs):0≤be xs∧be xs<256 ^ xs.length:=by
 have:=be_go xs 0 (Int.le_refl _) h;simpa [be]using this
theorem ior_add(a x:Int)(ha:0≤a)(hx:0≤x∧x<256):ior (a*256) x=a*256+x:=by
 unfold ior;have h:=Nat.shiftLeft_add_eq_or_of_lt (i:=8) (b:=x.toNat) (by omega) a.toNat;rw[show(a*256).toNat=a.toNat <<< 8 by rw[Nat.shiftLeft_eq];omega,←h,Nat.shiftLeft_eq];omega
def s0(x:Int):Int:=ixor (ixor (rotr x 7) (rotr x 18)) (x / 2 ^ (3:Int).toNat)
def s1(x:Int):Int:=ixor (ixor (rotr x 17) (rotr x 19)) (x / 2 ^ (10:Int).toNat)
def words(b:List Int):List Int:=(List.range 16).map fun t=>be ((b.drop (4*t)).take 4)
def nextW(ws:List Int)(t:Int):Int:=
 (((ws.getD (t - 16).toNat 0+ws.getD (t - 7).toNat 0) % 4294967296+s0 (ws.getD (t - 15).toNat 0)) % 4294967296+s1 (ws.getD (t - 2).toNat 0)) % 4294967296
def sch(b:List Int):Nat→List Int
 |0=>words b
 |n+1=>sch b n++[nextW (sch b n) (n+16:Nat)]
theorem sch_len(b:List Int):∀n,(sch b n).length=n+16
 |0=>by simp[sch,words]
 |n+1=>by rw[sch,List.length_append,sch_len b n,List.length_singleton]
def PW(b:List Int)(i:Nat)(W:List Int):Prop:=∀t,t<64→W.getD t 0=be (((b.take i).drop (4*t)).take 4)
theorem PW_zero(b:List Int):PW b 0 (List.replicate 64 0):=by
 intro t ht;rw[List.getD_eq_getElem?_getD,List.getElem?_replicate,if_pos ht,List.take_zero,List.drop_nil,List.take_nil];rfl
theorem pow256{m n:Nat}(h:m≤n):(256:Int) ^ m≤256 ^ n:=by
 have:=Nat.pow_le_pow_right (show 0<256 by decide) h;have e:∀k:Nat,(256:Int) ^ k=((256 ^ k:Nat):Int):=fun k=>(Int.natCast_pow 256 k).symm;rw[e,e];omega
theorem getD_set(W:List Int)(i j:Nat)(v:Int)(hi:i<W.length):(W.set i v).getD j 0=if i=j then v else W.getD j 0:=by
 simp only[List.getD_eq_getElem?_getD,List.getElem?_set];split
 ·rename_i h;subst h;simp
 ·rfl
theorem PW_step(b W:List Int)(i x:Int)(hi:0≤i∧i<64)(hW:W.length=64)(hb:64≤b.length)(hB:Bd .u8 b)(hx:x=b.getD i.toNat 0)(h:PW b i.toNat W):
  PW b (i+1).toNat (W.set (i / 4).toNat (ior (W.getD (i / 4).toNat 0*2 ^ (8:Int).toNat % 4294967296) x)):=by
 intro t ht;have hx2:=hB.get i.toNat;rw[←hx]at hx2;simp only[lim]at hx2;rw[getD_set _ _ _ _ (by omega)];have e1:b.take (i+1).toNat=b.take i.toNat++[x]:=by
  rw[show(i+1).toNat=i.toNat+1 by omega,List.take_succ_eq_append_getElem (by omega),hx];simp[List.getD_eq_getElem?_getD,List.getElem?_eq_getElem (show i.toNat<b.length by omega)]
 have hl:(b.take i.toNat).length=i.toNat:=by simp;omega
 have key:((b.take i.toNat++[x]).drop (4*t))=if 4*t≤i.toNat then(b.take i.toNat).drop (4*t)++[x]else []:=by
  split
  ·rw[List.drop_append_of_le_length (by omega)]
  ·exact List.drop_eq_nil_of_le (by rw[List.length_append,hl,List.length_singleton];omega)
 have hd:((b.take i.toNat).drop (4*t)).length=i.toNat - 4*t:=by rw[List.length_drop,hl]
 have hbd:=be_bd _ ((hB.take i.toNat).drop (4*t));have hWt:=h t ht;rw[e1,key];generalize (b.take i.toNat).drop (4*t)=D at*;split
 ·rename_i he;rw[he,hWt];rw[if_pos (by omega),List.take_of_length_le (by omega),List.take_of_length_le (by rw[List.length_append,List.length_singleton];omega),be_snoc];rw[hd]at hbd;have hp:(256:Int) ^ (i.toNat - 4*t)≤256 ^ 3:=pow256 (by omega);have h256:(256:Int) ^ 3=16777216:=by decide
  have h8:(2:Int) ^ (8:Int).toNat=256:=by decide
  rw[h8,Int.emod_eq_of_lt (by omega) (by omega)];exact ior_add _ _ hbd.1 hx2
 ·rename_i he;rw[hWt];split
  ·rw[List.take_append_of_le_length (by omega)]
  ·obtain rfl:D=[]:=List.length_eq_zero_iff.1 (by omega);rfl
theorem take_words(b W:List Int)(_hb:64≤b.length)(hW:W.length=64)(h:PW b 64 W):W.take 16=sch b 0:=by
 rw[sch];apply List.ext_getElem
 ·simp[words,hW]
 intro t h1 h2;have ht:t<16:=by simp at h1;omega
 have:=h t (by omega);rw[List.getD_eq_getElem?_getD,List.getElem?_eq_getElem (by omega)]at this;simp only[List.getElem_take,words,List.getElem_map,List.getElem_range];rw[show W[t]=_ from this,List.drop_take,List.take_take,show min 4 (64 - 4*t)=4 by omega]
theorem nextW_bd(ws:List Int)(t:Int):0≤nextW ws t∧nextW ws t<4294967296:=⟨Int.emod_nonneg _ (by decide),Int.emod_lt_of_pos _ (by decide)⟩
theorem words_bd(b:List Int)(hB:Bd .u8 b):Bd .u32 (words b):=by
 intro x hx;obtain⟨t,_,rfl⟩:=List.mem_map.1 hx;have h:=be_bd _ ((hB.drop (4*t)).take 4);have hp:(256:Int) ^ ((b.drop (4*t)).take 4).length≤256 ^ 4:=pow256 (by simp;omega);have h256:(256:Int) ^ 4=4294967296:=by decide
 simp only[lim];omega
theorem sch_bd(b:List Int)(hB:Bd .u8 b):∀n,Bd .u32 (sch b n)
 |0=>words_bd b hB
 |n+1=>(sch_bd b hB n).append (by intro x hx;obtain rfl:=List.mem_singleton.1 hx;exact nextW_bd _ _)
theorem sch_arr(b:List Int)(hB:Bd .u8 b):Arr .u32 64 (sch b 48):=⟨sch_len b 48,sch_bd b hB 48⟩
theorem take_getD(W:List Int)(n j:Nat)(h:j<n):(W.take n).getD j 0=W.getD j 0:=by
 simp[List.getD_eq_getElem?_getD,h]
theorem take64(b:List Int)(i:Int)(h:0≤i∧i<64):((b.drop 0).take (64 - 0)).getD i.toNat 0=b.getD i.toNat 0:=by
 rw[List.drop_zero,take_getD _ _ _ (by omega)]
theorem sch_step(b W:List Int)(t:Int)(ht:16≤t∧t<64)(hW:W.length=64)(h:W.take t.toNat=sch b (t.toNat - 16)):
  (W.set t.toNat (nextW W t)).take (t+1).toNat=sch b ((t+1).toNat - 16):=by
 rw [show (t + 1).toNat = t.toNat + 1 by omega, List.take_succ_eq_append_getElem (by rw [List.length_set]; omega), List.getElem_set_self, List.take_set_of_le (Nat.le_refl _), h,
  show t.toNat + 1 - 16 = (t.toNat - 16) + 1 by omega, sch]
 congr 2;have e:((t.toNat - 16+16:Nat):Int)=t:=by omega
 rw[e,←h];unfold nextW;rw[take_getD _ _ _ (by omega),take_getD _ _ _ (by omega),take_getD _ _ _ (by omega),take_getD _ _ _ (by omega)]
structure H8 where
 (a b c d e f g h:Int)
def H8.toL(s:H8):List Int:=[s.a,s.b,s.c,s.d,s.e,s.f,s.g,s.h]
def W32(x:Int):Prop:=0≤x∧x<4294967296
def H8.ok(s:H8):Prop:=W32 s.a∧W32 s.b∧W32 s.c∧W32 s.d∧W32 s.e∧W32 s.f∧W32 s.g∧W32 s.h
def H8.of(h:List Int):H8:=⟨h.getD 0 0,h.getD 1 0,h.getD 2 0,h.getD 3 0,h.getD 4 0,h.getD 5 0,h.getD 6 0,h.getD 7 0⟩
theorem H8.of_ok(h:List Int)(hb:Bd .u32 h):(H8.of h).ok:=⟨hb.get 0,hb.get 1,hb.get 2,hb.get 3,hb.get 4,hb.get 5,hb.get 6,hb.get 7⟩
def pp(k w:Int)(s:H8):Int:=((((s.h+mix s.e 6 11 25) % 4294967296+ixor (iand s.e s.f) (iand (4294967295 - s.e) s.g)) % 4294967296+k) % 4294967296+w) % 4294967296
def qq(s:H8):Int:=(mix s.a 2 13 22+ixor (ixor (iand s.a s.b) (iand s.a s.c)) (iand s.b s.c)) % 4294967296
def rnd(k w:Int)(s:H8):H8:=⟨(pp k w s+qq s) % 4294967296,s.a,s.b,s.c,(s.d+pp k w s) % 4294967296,s.e,s.f,s.g⟩
theorem mod_bd(x:Int):W32 (x % 4294967296):=⟨Int.emod_nonneg _ (by decide),Int.emod_lt_of_pos _ (by decide)⟩
theorem rnd_ok(k w:Int)(s:H8)(h:s.ok):(rnd k w s).ok:=⟨mod_bd _,h.1,h.2.1,h.2.2.1,mod_bd _,h.2.2.2.2.1,h.2.2.2.2.2.1,h.2.2.2.2.2.2.1⟩
def rounds(ws:List Int)(s:H8):Nat→H8
 |0=>s
 |n+1=>rnd (KK.getD n 0) (ws.getD n 0) (rounds ws s n)
theorem rounds_ok(ws:List Int)(s:H8)(h:s.ok):∀n,(rounds ws s n).ok
 |0=>h
 |n+1=>rnd_ok _ _ _ (rounds_ok ws s h n)
theorem ok_arr(s:H8)(h:s.ok):Arr .u32 8 s.toL:=by
 refine⟨rfl,?_⟩;obtain⟨o1,o2,o3,o4,o5,o6,o7,o8⟩:=h;intro x hx;simp only[H8.toL,List.mem_cons,List.not_mem_nil,or_false]at hx;rcases hx with rfl|rfl|rfl|rfl|rfl|rfl|rfl|rfl<;>assumption
def addW(h v:List Int):List Int:=(List.range 8).map fun i=>(h.getD i 0+v.getD i 0) % 4294967296
def grind(h b:List Int):List Int:=addW h (rounds (sch b 48) (H8.of h) 64).toL
theorem grind_arr(h b:List Int):Arr .u32 8 (grind h b):=by
 refine⟨by simp[grind,addW],?_⟩;intro x hx;obtain⟨i,_,rfl⟩:=List.mem_map.1 hx;exact mod_bd _
theorem add_step(h v xs:List Int)(i:Int)(hi:0≤i∧i<8)(_hl:xs.length=8)(h1:xs=(addW h v).take i.toNat++h.drop i.toNat)(hh:h.length=8):
  xs.set i.toNat ((xs.getD i.toNat 0+v.getD i.toNat 0) % 4294967296)=(addW h v).take (i+1).toNat++h.drop (i+1).toNat:=by
 have ha:(addW h v).length=8:=by simp[addW]
 have ht:((addW h v).take i.toNat).length=i.toNat:=by simp[ha];omega
 have e1:xs.getD i.toNat 0=h.getD i.toNat 0:=by
  rw[h1,List.getD_eq_getElem?_getD,List.getElem?_append_right (by omega),ht,List.getElem?_drop,←List.getD_eq_getElem?_getD];congr 1;omega
 rw[e1,h1,List.set_append_right _ _ (by omega),ht,Nat.sub_self,show(i+1).toNat=i.toNat+1 by omega,List.take_succ_eq_append_getElem (by omega),List.append_assoc];congr 1;rw[List.drop_eq_getElem_cons (show i.toNat<h.length by omega),List.set_cons_zero];simp[addW]
theorem rounds_zero(ws:List Int)(s:H8):rounds ws s 0=s:=rfl
theorem rounds_succ(ws:List Int)(s:H8)(n:Nat):rounds ws s (n+1)=rnd (KK.getD n 0) (ws.getD n 0) (rounds ws s n):=rfl
theorem grind_eq(h b:List Int):grind h b=addW h (rounds (sch b 48) (H8.of h) 64).toL:=rfl
theorem addW_len(h v:List Int):(addW h v).length=8:=by simp[addW]
attribute [irreducible] sch rounds words addW grind
theorem words_append(a b:List Int)(h:64≤a.length):words (a++b)=words a:=by
 unfold words;apply List.map_congr_left;intro t ht;have ht:=List.mem_range.1 ht;rw[List.drop_append_of_le_length (by omega),List.take_append_of_le_length (by rw[List.length_drop];omega)]
theorem sch_congr{a b:List Int}(h:words a=words b):∀n,sch a n=sch b n
 |0=>by rw[sch,sch,h]
 |n+1=>by rw[sch,sch,sch_congr h n]
theorem grind_append(h a b:List Int)(hl:64≤a.length):grind h (a++b)=grind h a:=by
 rw[grind_eq,grind_eq,sch_congr (words_append a b hl)]
def blocksN:Nat→List Int→List Int→List Int
 |0,h,_=>h
 |n+1,h,bs=>blocksN n (grind h bs) (bs.drop 64)
def blocksS(h bs:List Int):List Int:=blocksN (bs.length / 64) h bs
def restS(bs:List Int):List Int:=bs.drop (bs.length / 64*64)
theorem blocks_lt(h bs:List Int)(hl:bs.length<64):blocksS h bs=h:=by
 unfold blocksS;rw[Nat.div_eq_of_lt hl];rfl
theorem rest_lt(bs:List Int)(hl:bs.length<64):restS bs=bs:=by
 unfold restS;rw[Nat.div_eq_of_lt hl,Nat.zero_mul];rfl
theorem blocks_ge(h bs:List Int)(hl:64≤bs.length):blocksS (grind h bs) (bs.drop 64)=blocksS h bs:=by
 unfold blocksS;obtain⟨k,hk⟩:∃k,bs.length / 64=k+1:=⟨bs.length / 64 - 1,by omega⟩
 rw[hk,List.length_drop,show(bs.length - 64) / 64=k by omega];rfl
theorem rest_ge(bs:List Int)(hl:64≤bs.length):restS (bs.drop 64)=restS bs:=by
 unfold restS;rw[List.drop_drop,List.length_drop];congr 1;omega
theorem blocks_arr(h bs:List Int)(ha:Arr .u32 8 h):Arr .u32 8 (blocksS h bs):=by
 unfold blocksS;generalize bs.length / 64=n
 induction n generalizing h bs with
 |zero=>exact ha
 |succ n ih=>exact ih _ _ (grind_arr _ _)
theorem blocks_append:∀(n:Nat) (h a b:List Int),a.length / 64=n→blocksS h (a++b)=blocksS (blocksS h a) (restS a++b)
 |0,h,a,b,hn=>by rw[blocks_lt h a (by omega),rest_lt a (by omega)]
 |n+1,h,a,b,hn=>by
  rw[←blocks_ge h a (by omega),←rest_ge a (by omega),←blocks_ge h (a++b) (by rw[List.length_append];omega),List.drop_append_of_le_length (by omega),grind_append _ _ _ (by omega)];exact blocks_append n _ _ b (by rw[List.length_drop];omega)
theorem rest_append:∀(n:Nat) (a b:List Int),a.length / 64=n→restS (a++b)=restS (restS a++b)
 |0,a,b,hn=>by rw[rest_lt a (by omega)]
 |n+1,a,b,hn=>by
  rw[←rest_ge a (by omega),←rest_ge (a++b) (by rw[List.length_append];omega),List.drop_append_of_le_length (by omega)];exact rest_append n _ b (by rw[List.length_drop];omega)
theorem rest_le(bs:List Int):(restS bs).length≤bs.length:=by
 unfold restS;rw[List.length_drop];omega
def be8(n:Int):List Int:=(List.range 8).map fun i=>n / 2 ^ (56 - 8*i) % 256
def padS(n:Int):List Int:=(128::List.replicate ((119 - n % 64) % 64).toNat 0)++be8 (8*n)
def outS(h:List Int):List Int:=(List.range 32).map fun i=>h.getD (i / 4) 0 / 2 ^ (24 - 8*(i % 4)) % 256
def sha(bs:List Int):List Int:=outS (blocksS IV (bs++padS bs.length))
theorem byte_bd(x:Int):0≤x % 256∧x % 256<256:=⟨Int.emod_nonneg _ (by decide),Int.emod_lt_of_pos _ (by decide)⟩
theorem be8_len(n:Int):(be8 n).length=8:=by simp[be8]
theorem out_arr(h:List Int):Arr .u8 32 (outS h):=by
 refine⟨by simp[outS],?_⟩;intro x hx;obtain⟨i,_,rfl⟩:=List.mem_map.1 hx;exact byte_bd _
theorem sha_arr(bs:List Int):Arr .u8 32 (sha bs):=out_arr _
theorem sha_eq(bs:List Int)(n:Int)(hn:n=bs.length):outS (blocksS (blocksS IV bs) (restS bs++padS n))=sha bs:=by
 subst hn;rw[←blocks_append _ _ _ _ rfl];rfl
theorem IV_arr:Arr .u32 8 IV:=by
 refine⟨rfl,?_⟩;intro x hx;simp only[IV,List.mem_cons,List.not_mem_nil,or_false]at hx;rcases hx with rfl|rfl|rfl|rfl|rfl|rfl|rfl|rfl<;>exact⟨by decide,by decide⟩
theorem set_step{ys xs:List Int}(z:List Int)(i:Nat)(hx:xs=ys.take i++z.drop i)(hi:i<ys.length)(hz:z.length=ys.length):
  xs.set i (ys.getD i 0)=ys.take (i+1)++z.drop (i+1):=by
 have ht:(ys.take i).length=i:=by rw[List.length_take];omega
 rw[hx,List.set_append_right _ _ (by omega),ht,Nat.sub_self,List.take_succ_eq_append_getElem hi,List.append_assoc,List.drop_eq_getElem_cons (show i<z.length by omega),List.set_cons_zero];congr 1;simp[List.getD_eq_getElem?_getD,List.getElem?_eq_getElem hi]
theorem out_get(h:List Int)(i:Nat)(hi:i<32):(outS h).getD i 0=h.getD (i / 4) 0 / 2 ^ (24 - 8*(i % 4)) % 256:=by
 simp only[outS,List.getD_eq_getElem?_getD,List.getElem?_map,List.getElem?_range hi,Option.map_some,Option.getD_some]
theorem be8_get(n:Int)(i:Nat)(hi:i<8):(be8 n).getD i 0=n / 2 ^ (56 - 8*i) % 256:=by
 simp only[be8,List.getD_eq_getElem?_getD,List.getElem?_map,List.getElem?_range hi,Option.map_some,Option.getD_some]
theorem take_snoc(ys:List Int)(i:Nat)(hi:i<ys.length):ys.take (i+1)=ys.take i++[ys.getD i 0]:=by
 rw[List.take_succ_eq_append_getElem hi];simp[List.getD_eq_getElem?_getD,List.getElem?_eq_getElem hi]
theorem be8_snoc(n i:Int)(hi:0≤i∧i≤56)(h8:i % 8=0):(be8 n).take ((56 - (i - 8)) / 8).toNat=(be8 n).take ((56 - i) / 8).toNat++[n / 2 ^ i.toNat % 256]:=by
 rw[show((56 - (i - 8)) / 8).toNat=((56 - i) / 8).toNat+1 by omega,take_snoc _ _ (by rw[be8_len];omega),be8_get _ _ (by omega),show 56 - 8*((56 - i) / 8).toNat=i.toNat by omega]
theorem out_step(h ids:List Int)(i w:Int)(hi:0≤i∧i<8)(hw:w=h.getD i.toNat 0)(he:ids=(outS h).take (4*i).toNat++(List.replicate 32 0).drop (4*i).toNat):
  (((ids.set (4*i).toNat (w / 2 ^ (24:Int).toNat % 256)).set (4*i+1).toNat (w / 2 ^ (16:Int).toNat % 256)).set (4*i+2).toNat (w / 2 ^ (8:Int).toNat % 256)).set (4*i+3).toNat (w % 256)=(outS h).take (4*(i+1)).toNat++(List.replicate 32 0).drop (4*(i+1)).toNat:=by
 have hl:(outS h).length=32:=(out_arr h).1;have g:∀j:Nat,j<4→(outS h).getD ((4*i).toNat+j) 0=w / 2 ^ (24 - 8*j) % 256:=by
  intro j hj;rw[out_get _ _ (by omega),show((4*i).toNat+j) / 4=i.toNat by omega,show((4*i).toNat+j) % 4=j by omega,hw]
 have s0:=set_step (List.replicate 32 0) (4*i).toNat he (by omega) (by simp[hl]);rw[show(4*i).toNat=(4*i).toNat+0 by omega,g 0 (by omega)]at s0;have s1:=set_step (List.replicate 32 0) _ s0 (by omega) (by simp[hl]);rw[show(4*i).toNat+0+1=(4*i).toNat+1 by omega,g 1 (by omega)]at s1;have s2:=set_step (List.replicate 32 0) _ s1 (by omega) (by simp[hl]);rw[show(4*i).toNat+1+1=(4*i).toNat+2 by omega,g 2 (by omega)]at s2;have s3:=set_step (List.replicate 32 0) _ s2 (by omega) (by simp[hl]);rw[show(4*i).toNat+2+1=(4*i).toNat+3 by omega,g 3 (by omega)]at s3;rw[show(4*(i+1)).toNat=(4*i).toNat+3+1 by omega,show(4*i+1).toNat=(4*i).toNat+1 by omega,show(4*i+2).toNat=(4*i).toNat+2 by omega,show(4*i+3).toNat=(4*i).toNat+3 by omega,←s3];simp
theorem pad_eq(n:Int)(j:Nat)(hj:j=((119 - n % 64) % 64).toNat):([128]++List.replicate j 0)++be8 (8*n)=padS n:=by
 subst hj;rfl
attribute [irreducible] blocksS restS padS outS sha be8
def blen(n:Int):Nat:=
 if n≤0 then 0 else if n<256 then 1 else if n<65536 then 2 else if n<16777216 then 3 else if n<4294967296 then 4 else if n<1099511627776 then 5 else if n<281474976710656 then 6 else if n<72057594037927936 then 7 else 8
theorem blen_le(n:Int):blen n≤8:=by
 simp only[blen]
 repeat' split
 all_goals omega
def leK:Nat→Int→List Int
 |0,_=>[]
 |k+1,n=>n % 256::leK k (n / 256)
theorem leK_len:∀(k:Nat) (n:Int),(leK k n).length=k
 |0,_=>rfl
 |k+1,n=>by rw[leK,List.length_cons,leK_len k]
theorem leK_get:∀(k:Nat) (n:Int) (i:Nat),i<k→(leK k n).getD i 0=n / 2 ^ (8*i) % 256
 |0,_,_,h=>by omega
 |k+1,n,0,_=>by simp[leK]
 |k+1,n,i+1,h=>by
  rw[leK,List.getD_cons_succ,leK_get k _ i (by omega),Int.ediv_ediv_of_nonneg (by decide)];congr 2;rw[show 8*(i+1)=8+8*i by omega,Int.pow_add];rfl
def numS(n:Int):List Int:=if n≤247 then [n]else(247+(blen n:Int))::(leK (blen n) n).reverse
theorem numS_small(n:Int)(h:n≤247):numS n=[n]:=by unfold numS;rw[if_pos h]
theorem numS_large(n:Int)(h:¬n≤247):numS n=(247+(blen n:Int))::(leK (blen n) n).reverse:=by unfold numS;rw[if_neg h]
theorem numS_len(n:Int):1≤(numS n).length∧(numS n).length≤9:=by
 have:=blen_le n;unfold numS;split
 ·simp
 ·simp[leK_len];omega
def numP(n:Int)(i:Nat):List Int:=(247+(blen n:Int))::(List.replicate (blen n - i) 0++((leK (blen n) n).take i).reverse)
theorem numP_zero(n:Int):numP n 0=(247+(blen n:Int))::List.replicate (blen n) 0:=by simp[numP]
theorem numP_step(n:Int)(i:Nat)(h:i<blen n):(numP n i).set (blen n - i) (n / 2 ^ (8*i) % 256)=numP n (i+1):=by
 rw[←leK_get (blen n) n i h];unfold numP;obtain⟨m,hm⟩:∃m,blen n - i=m+1:=⟨blen n - i - 1,by omega⟩
 rw[hm,show blen n - (i+1)=m by omega,List.set_cons_succ,take_snoc _ _ (by rw[leK_len];exact h),List.reverse_append];congr 1;rw[List.replicate_succ',List.append_assoc,List.set_append_right _ _ (by simp),List.length_replicate,Nat.sub_self];rfl
theorem numP_all(n:Int)(h:¬n≤247):numP n (blen n)=numS n:=by
 rw[numS_large n h,numP,Nat.sub_self,List.take_of_length_le (by rw[leK_len];exact Nat.le_refl _)];rfl
def tabOk(xs:List Int):Bool:=Nat.beq xs.length 256&&xs.head? ==some 0&&xs.tail.all fun x=>decide (1≤x)&&decide (x≤8)
theorem tab_get(xs:List Int)(h:tabOk xs=true)(i:Int)(hi:0≤i∧i<256):(i=0→xs.getD i.toNat 0=0)∧(0<i→1≤xs.getD i.toNat 0)∧0≤xs.getD i.toNat 0∧xs.getD i.toNat 0≤8:=by
 simp only[tabOk,Bool.and_eq_true]at h;obtain⟨⟨h1,h2⟩,h3⟩:=h;have h1:=Nat.eq_of_beq_eq_true h1;cases xs with
 |nil=>simp at h1
 |cons a r=>
  simp only[List.head?_cons,beq_iff_eq,Option.some.injEq]at h2;subst h2;by_cases h0:i=0
  ·subst h0;simp
  ·obtain⟨m,hm⟩:∃m,i.toNat=m+1:=⟨i.toNat - 1,by omega⟩
   rw[hm,List.getD_cons_succ];have hr:m<r.length:=by simp at h1;omega
   have:=List.all_eq_true.1 h3 (r.getD m 0) (by simp only[List.tail_cons,List.getD_eq_getElem?_getD,List.getElem?_eq_getElem hr,Option.getD_some];exact List.getElem_mem hr);simp only[Bool.and_eq_true,decide_eq_true_eq]at this;omega
def cmpS:List Int→List Int→Int
 |[],[]=>0
 |[],_::_=> -1
 |_::_,[]=>1
 |x::xs,y::ys=>if x<y then -1 else if y<x then 1 else cmpS xs ys
theorem cmpS_rng:∀(a b:List Int),cmpS a b= -1∨cmpS a b=0∨cmpS a b=1
 |[],[]=>by simp[cmpS]
 |[],_::_=>by simp[cmpS]
 |_::_,[]=>by simp[cmpS]
 |x::xs,y::ys=>by
  unfold cmpS;split
  ·simp
  ·split
   ·simp
   ·exact cmpS_rng xs ys
theorem cmpS_swap:∀(a b:List Int),cmpS b a= - cmpS a b
 |[],[]=>by simp[cmpS]
 |[],_::_=>by simp[cmpS]
 |_::_,[]=>by simp[cmpS]
 |x::xs,y::ys=>by
  have ih:=cmpS_swap xs ys;simp only[cmpS]
  repeat' split
  all_goals omega
theorem cmpS_eq:∀(a b:List Int),cmpS a b=0↔a=b
 |[],[]=>by simp[cmpS]
 |[],_::_=>by simp[cmpS]
 |_::_,[]=>by simp[cmpS]
 |x::xs,y::ys=>by
  have ih:=cmpS_eq xs ys;unfold cmpS;split
  ·simp;omega
  ·split
   ·simp;omega
   ·have:x=y:=by omega
    simp[ih,this]
theorem cmpS_step(a b:List Int)(i:Nat)(ha:i<a.length)(hb:i<b.length):
  cmpS (a.drop i) (b.drop i)=if a.getD i 0<b.getD i 0 then -1 else if b.getD i 0<a.getD i 0 then 1 else cmpS (a.drop (i+1)) (b.drop (i+1)):=by
 rw[List.drop_eq_getElem_cons ha,List.drop_eq_getElem_cons hb];simp[cmpS,List.getD_eq_getElem?_getD,List.getElem?_eq_getElem ha,List.getElem?_eq_getElem hb]
def idAt(ids:List Int)(i:Nat):List Int:=(ids.drop (32*i)).take 32
theorem idAt_len(ids:List Int)(i n:Nat)(h:ids.length=32*n)(hi:i<n):(idAt ids i).length=32:=by
 unfold idAt;rw[List.length_take,List.length_drop];omega
def Rising(n:Nat)(ids:List Int):Prop:=∀i,i<n - 1→cmpS (idAt ids i) (idAt ids (i+1))<0
instance(n:Nat)(ids:List Int):Decidable (Rising n ids):=by unfold Rising;infer_instance
def Sorted(n:Nat)(ids:List Int):Prop:=∀i,i<n - 1→¬cmpS (idAt ids (i+1)) (idAt ids i)<0
def Apart(n:Nat)(ids:List Int):Prop:=∀i,i<n - 1→idAt ids (i+1)≠idAt ids i
theorem rising_iff(n:Nat)(ids:List Int):Rising n ids↔Sorted n ids∧Apart n ids:=by
 have key:∀a b:List Int,cmpS a b<0↔¬cmpS b a<0∧b≠a:=by
  intro a b;have h1:=cmpS_swap a b;have h2:=cmpS_rng a b;have h3:=cmpS_eq a b;constructor
  ·intro h;exact⟨by omega,fun e=>by have:=h3.2 e.symm;omega⟩
  ·rintro⟨h,hn⟩;have:cmpS a b≠0:=fun e=>hn (h3.1 e).symm;omega
 unfold Rising Sorted Apart;constructor
 ·intro h;exact⟨fun i hi=>((key _ _).1 (h i hi)).1,fun i hi=>((key _ _).1 (h i hi)).2⟩
 ·rintro⟨h1,h2⟩ i hi;exact(key _ _).2 ⟨h1 i hi,h2 i hi⟩
theorem cmp_go (p q : Int) : ∀ (xs ys : List UInt8), (match (List.range (min xs.length ys.length)).find? fun i => xs.getD i 0 != ys.getD i 0 with
  | some i => if xs.getD i 0 < ys.getD i 0 then (-1 : Int) else 1
  | none => if xs.length < ys.length then -1 else if xs.length > ys.length then 1 else 0) = cmpS (xs.map fun b => (b.toNat : Int)) (ys.map fun b => (b.toNat : Int))
 |[],[]=>by simp[cmpS]
 |[],_::_=>by simp[cmpS]
 |_::_,[]=>by simp[cmpS]
 |x::xs,y::ys=>by
  have ih:=cmp_go p q xs ys;simp only[List.length_cons,List.map_cons,cmpS];rw[show min (xs.length+1) (ys.length+1)=min xs.length ys.length+1 by omega,List.range_succ_eq_map,List.find?_cons];simp only[List.getD_cons_zero];by_cases h:x=y
  ·subst h;simp only[bne_self_eq_false,List.find?_map,Int.lt_irrefl,if_false];rw[←ih];simp only[Function.comp_def,Nat.succ_eq_add_one,List.getD_cons_succ];cases (List.range (min xs.length ys.length)).find? fun i=>xs.getD i 0 != ys.getD i 0 with
   |none=>simp
   |some i=>simp
  ·have h1:(x != y)=true:=by simpa using h
   simp only[h1,List.getD_cons_zero];have h2:x.toNat≠y.toNat:=fun e=>h (UInt8.toNat_inj.1 e);by_cases hlt:x<y
   ·have:=UInt8.lt_iff_toNat_lt.1 hlt;rw[if_pos hlt,if_pos (by omega)]
   ·have:¬x.toNat<y.toNat:=fun e=>hlt (UInt8.lt_iff_toNat_lt.2 e);rw[if_neg hlt,if_neg (by omega),if_pos (by omega)]
theorem cmp_eq(A B:ByteArray):Go.Extern.BytealgCompare.cmp A B=cmpS (bys A) (bys B):=by
 rw[bys,bys,←cmp_go 0 0];have hA:A.size=A.data.toList.length:=by rw[Array.length_toList];rfl
 have hB:B.size=B.data.toList.length:=by rw[Array.length_toList];rfl
 have ga:∀(C:ByteArray) (i:Nat),C[i]! =C.data.toList.getD i 0:=by
  intro C i;by_cases h:i<C.size
  ·rw[getElem!_pos C i h];simp only[List.getD_eq_getElem?_getD];rw[List.getElem?_eq_getElem (by simpa using h)];rfl
  ·rw[getElem!_neg C i h];simp only[List.getD_eq_getElem?_getD];rw[List.getElem?_eq_none (by simpa using h)];rfl
 simp only[Go.Extern.BytealgCompare.cmp,hA,hB,ga];generalize List.find? _ _=o;cases o<;>rfl
theorem cmp_run{P:Program}{w:World}{S T:Nat→Prop}{a a2:Option Addr}{n n2 c c2:Nat}{xs ys:List Int}(h:IRow .u8 S w a n xs)(h2:IRow .u8 T w a2 n2 ys):
  (Go.Extern.BytealgCompare.compare [.slice a n c, .slice a2 n2 c2].toArray).run P w= .ok (.int .i64 (cmpS xs ys)) w:=by
 show((do pure (goInt (Go.Extern.BytealgCompare.cmp (←Go.Extern.Bytes.bytesOf (.slice a n c)) (←Go.Extern.Bytes.bytesOf (.slice a2 n2 c2)))):Sem Value)).run P w=_;simp only[Sem.run_bind,bytesOf_run h,bytesOf_run h2,Result.andThen,Sem.run_pure];rw[cmp_eq,bys_strOf _ h.bd,bys_strOf _ h2.bd];rfl
instance(n:Nat)(ids:List Int):Decidable (Sorted n ids):=by unfold Sorted;infer_instance
instance(n:Nat)(ids:List Int):Decidable (Apart n ids):=by unfold Apart;infer_instance
theorem idAt_elt(ids:List Int)(i:Nat):idAt ids i=elt 32 ids i:=rfl
theorem made_ints(k:IntKind)(m:Nat):(madeCells [Value.int k 0].toArray m).toList=ints k (List.replicate m 0):=by
 apply List.ext_getElem
 ·simp[madeCells,ints_length]
 intro i h1 h2;simp[madeCells,ints,Nat.mod_one]
theorem numP_first(n:Int):(List.replicate (blen n+1) (0:Int)).set 0 (247+(blen n:Int))=numP n 0:=by
 rw[numP_zero,List.replicate_succ];rfl
theorem len_big(n L:Int)(j:Int)(x:Int)(t:Int)(hx:x=n / 2 ^ (8*j).toNat)(hj:0≤j∧j≤7)(h256:0≤x∧x<256)(hx0:0<x)(ht:1≤t∧t≤8)(hL:L=8*j+t):(L+7) / 8=(blen n:Int):=by
 have key:(L+7) / 8=j+1:=by omega
 rw[key];have hj':j=0∨j=1∨j=2∨j=3∨j=4∨j=5∨j=6∨j=7:=by omega
 unfold blen;rcases hj' with rfl|rfl|rfl|rfl|rfl|rfl|rfl|rfl
 ·have:x=n:=by rw[hx];simp
  rw[if_neg (by omega),if_pos (by omega)];rfl
 ·have:x=n / 256:=hx;rw[if_neg (by omega),if_neg (by omega),if_pos (by omega)];rfl
 ·have:x=n / 65536:=hx;rw[if_neg (by omega),if_neg (by omega),if_neg (by omega),if_pos (by omega)];rfl
 ·have:x=n / 16777216:=hx;rw[if_neg (by omega),if_neg (by omega),if_neg (by omega),if_neg (by omega),if_pos (by omega)];rfl
 ·have:x=n / 4294967296:=hx;rw[if_neg (by omega),if_neg (by omega),if_neg (by omega),if_neg (by omega),if_neg (by omega),if_pos (by omega)];rfl
 ·have:x=n / 1099511627776:=hx;rw[if_neg (by omega),if_neg (by omega),if_neg (by omega),if_neg (by omega),if_neg (by omega),if_neg (by omega),if_pos (by omega)];rfl
 ·have:x=n / 281474976710656:=hx;rw[if_neg (by omega),if_neg (by omega),if_neg (by omega),if_neg (by omega),if_neg (by omega),if_neg (by omega),if_neg (by omega),if_pos (by omega)];rfl
 ·have:x=n / 72057594037927936:=hx;rw[if_neg (by omega),if_neg (by omega),if_neg (by omega),if_neg (by omega),if_neg (by omega),if_neg (by omega),if_neg (by omega),if_neg (by omega)];rfl
theorem tab_of{xs:List Int}{i v:Int}(hq:v=xs.getD i.toNat 0)(h:tabOk xs=true)(hi:0≤i∧i<256):(i=0→v=0)∧(0<i→1≤v)∧0≤v∧v≤8:=by
 rw[hq];exact tab_get xs h i hi
def zig(n:Int):Int:=if 0≤n then 2*n else -2*n - 1
theorem zig_bd(n:Int)(h: -9223372036854775808≤n∧n≤9223372036854775807):0≤zig n∧zig n<18446744073709551616:=by
 unfold zig;split<;>omega
theorem ixor_ones(x:Int)(h:0≤x∧x<18446744073709551616):ixor x 18446744073709551615=18446744073709551615 - x:=by
 obtain⟨n,rfl⟩:=Int.eq_ofNat_of_zero_le h.1;have hn:n<2 ^ 64:=by omega
 unfold ixor;have e:n ^^^ (2 ^ 64 - 1)=2 ^ 64 - 1 - n:=by
  have h1:(BitVec.ofNat 64 n ^^^ BitVec.allOnes 64).toNat=(~~~ BitVec.ofNat 64 n).toNat:=by rw[BitVec.xor_allOnes]
  rw[BitVec.toNat_xor,BitVec.toNat_not,BitVec.toNat_ofNat,BitVec.toNat_allOnes,Nat.mod_eq_of_lt hn]at h1;exact h1
 rw[show((n:Int)).toNat=n from rfl,show(18446744073709551615:Int).toNat=2 ^ 64 - 1 from rfl,e];omega
theorem ixor_zero(x:Int)(h:0≤x):ixor x 0=x:=by
 unfold ixor;rw[show(0:Int).toNat=0 from rfl,Nat.xor_zero];omega
theorem zig_eq(n:Int)(h: -9223372036854775808≤n∧n≤9223372036854775807):ixor (n % 18446744073709551616*2 ^ (1:Int).toNat % 18446744073709551616) (n / 2 ^ (63:Int).toNat % 18446744073709551616)=zig n:=by
 have h63:(2:Int) ^ (63:Int).toNat=9223372036854775808:=by decide
 have h1:(2:Int) ^ (1:Int).toNat=2:=by decide
 rw[h63,h1];unfold zig;split
 ·rw[show n / 9223372036854775808 % 18446744073709551616=0 by omega,ixor_zero _ (by omega)];omega
 ·rw[show n / 9223372036854775808 % 18446744073709551616=18446744073709551615 by omega,ixor_ones _ (by omega)];omega
def listS(n:Nat)(ids:List Int):List Int:=numS n++ids
theorem rising_step(_n:Nat)(ids:List Int)(p:Int)(h0:1≤p)(h:∀j,j<p.toNat - 1→cmpS (idAt ids j) (idAt ids (j+1))<0)(h2:cmpS (idAt ids (p - 1).toNat) (idAt ids p.toNat)<0):∀j,j<(p+1).toNat - 1→cmpS (idAt ids j) (idAt ids (j+1))<0:=by
 intro j hj;by_cases hj':j<p.toNat - 1
 ·exact h j hj'
 ·rw[show(p - 1).toNat=j by omega,show p.toNat=j+1 by omega]at h2;exact h2
def Asc(lo:Int)(s:ByteArray):Prop:=∀j,j<s.size→lo≤(bys s).getD j 0∧(bys s).getD j 0≤126
instance(lo:Int)(s:ByteArray):Decidable (Asc lo s):=by unfold Asc;infer_instance
theorem dec_case(s:ByteArray)(p:Nat)(hp:p<s.size):((bys s).getD p 0<128∧((Utf8.decode s p).1:Int)=(bys s).getD p 0∧(Utf8.decode s p).2=1)∨(128≤(bys s).getD p 0∧(128:Int)≤(Utf8.decode s p).1):=by
 rw[bys_get s p hp];by_cases h:(s[p]'hp).toNat<128
 ·left;rw[decode_ascii s p hp h];exact⟨by omega,rfl,rfl⟩
 ·right;have:=decode_high s p hp (by omega);omega
def KeyOk(s:ByteArray):Prop:=1≤s.size∧s.size≤20∧Asc 33 s
instance(s:ByteArray):Decidable (KeyOk s):=by unfold KeyOk;infer_instance
def clsS(b:Int):Int:=
 if b / 4503599627370496 % 2048=2047 then(if b % 4503599627370496=0 then 4 else 5)
 else if b / 4503599627370496 % 2048=0 then(if b % 4503599627370496=0 then 1 else 2)else 3
def canS(b:Int):Int:=if clsS b=5 then 9221120237041090560 else b
theorem sand_2047(a:Int)(h:0≤a∧a<9223372036854775808):sand .i64 a 2047=a % 2048:=by
 unfold sand;have e1:(BitVec.ofInt IntKind.i64.bits a &&& BitVec.ofInt IntKind.i64.bits 2047).toNat=a.toNat % 2048:=by
  rw[BitVec.toNat_and];have h1:(BitVec.ofInt IntKind.i64.bits a).toNat=a.toNat:=ofInt_toNat 64 a h.1 (by omega);have h2:(BitVec.ofInt IntKind.i64.bits 2047).toNat=2 ^ 11 - 1:=ofInt_toNat 64 2047 (by decide) (by decide);rw[h1,h2,Nat.and_two_pow_sub_one_eq_mod]
 rw[e1,W.i64 (by omega)];omega
theorem iand_full(b:Int)(h:0≤b):iand b 4503599627370495=b % 4503599627370496:=by
 unfold iand;rw[show(4503599627370495:Int).toNat=2 ^ 52 - 1 from rfl,Nat.and_two_pow_sub_one_eq_mod];omega
theorem exp_eq(b:Int)(_h:0≤b):b % 9223372036854775808 / 4503599627370496=b / 4503599627370496 % 2048:=by omega
def FineV(k num bits:Int)(t:ByteArray):Prop:=
 (k=1∧bits=0∧t=ByteArray.empty)∨(k=2∧num=0∧t=ByteArray.empty∧canS bits=bits)∨(k=3∧num=0∧bits=0∧t.size≤30∧Asc 32 t)
instance(k num bits:Int)(t:ByteArray):Decidable (FineV k num bits t):=by unfold FineV;infer_instance
def valE(k num bits:Int)(t:ByteArray):Int:=if FineV k num bits t then 0 else 8
def TextOk(t:ByteArray):Prop:=t.size≤30∧Asc 32 t
theorem eqV(a b c a' b' c':Int)(d d':ByteArray):eqC [.int .u8 a, .int .i64 b, .int .u64 c, .string d] [.int .u8 a', .int .i64 b', .int .u64 c', .string d']=decide (a=a'∧b=b'∧c=c'∧d=d'):=by
 simp only[eqC,strEq,Bool.and_true];by_cases h1:a=a'<;>by_cases h2:b=b'<;>by_cases h3:c=c'<;>by_cases h4:d=d'<;>simp[h1,h2,h3,h4]
theorem valE_pos{k num bits:Int}{t:ByteArray}(h:FineV k num bits t):(0:Int)=valE k num bits t:=by unfold valE;rw[if_pos h]
theorem valE_neg{k num bits:Int}{t:ByteArray}(h:¬FineV k num bits t):(8:Int)=valE k num bits t:=by unfold valE;rw[if_neg h]
def valS(k num bits:Int)(t:ByteArray):List Int:=
 [k]++(if k=1 then numS (zig num)else if k=2 then be8 bits else if k=3 then numS t.size++bys t else [])
structure OpV where
 (au st k vk num bits e s:Int)(n:Nat)(ids:List Int)(key t:ByteArray)
structure OpV.ok(o:OpV):Prop where
 au:0≤o.au∧o.au<4294967296
 st:0≤o.st∧o.st<18446744073709551616
 k:0≤o.k∧o.k<256
 vk:0≤o.vk∧o.vk<256
 num: -9223372036854775808≤o.num∧o.num≤9223372036854775807
 bits:0≤o.bits∧o.bits<18446744073709551616
 e:0≤o.e∧o.e<4294967296
 s:0≤o.s∧o.s<4294967296
 n:o.n≤40
 key:o.key.size≤100
 t:o.t.size≤100
def FineAct(k:Int)(key:ByteArray)(vk num bits:Int)(t:ByteArray):Prop:=
 (k=1∧key=ByteArray.empty∧vk=0∧num=0∧bits=0∧t=ByteArray.empty)∨((k=2∨k=3)∧KeyOk key∧vk=0∧num=0∧bits=0∧t=ByteArray.empty)∨(k=4∧KeyOk key∧FineV vk num bits t)
instance(k:Int)(key:ByteArray)(vk num bits:Int)(t:ByteArray):Decidable (FineAct k key vk num bits t):=by unfold FineAct;infer_instance
def actE(k:Int)(key:ByteArray)(vk num bits:Int)(t:ByteArray):Int:=if FineAct k key vk num bits t then 0 else 8
theorem actE_pos{k:Int}{key:ByteArray}{vk num bits:Int}{t:ByteArray}(h:FineAct k key vk num bits t):(0:Int)=actE k key vk num bits t:=by unfold actE;rw[if_pos h]
theorem actE_neg{k:Int}{key:ByteArray}{vk num bits:Int}{t:ByteArray}(h:¬FineAct k key vk num bits t):(8:Int)=actE k key vk num bits t:=by unfold actE;rw[if_neg h]
theorem valE_zero{k num bits:Int}{t:ByteArray}:valE k num bits t=0↔FineV k num bits t:=by unfold valE;split<;>simp_all
theorem actE_zero{k:Int}{key:ByteArray}{vk num bits:Int}{t:ByteArray}:actE k key vk num bits t=0↔FineAct k key vk num bits t:=by unfold actE;split<;>simp_all
theorem eqA6(a b c d a' b' c' d':Int)(x y x' y':ByteArray):eqC [.int .u8 a, .string x, .int .u8 b, .int .i64 c, .int .u64 d, .string y] [.int .u8 a', .string x', .int .u8 b', .int .i64 c', .int .u64 d', .string y']=decide (a=a'∧x=x'∧b=b'∧c=c'∧d=d'∧y=y'):=by
 simp only[eqC,strEq,Bool.and_true];by_cases h1:a=a'<;>by_cases h2:b=b'<;>by_cases h3:c=c'<;>by_cases h4:d=d'<;>by_cases h5:x=x'<;>by_cases h6:y=y'<;>simp[h1,h2,h3,h4,h5,h6]
theorem eqS2(a b a' b':Int):eqC [.int .u32 a, .int .u32 b] [.int .u32 a', .int .u32 b']=decide (a=a'∧b=b'):=by
 simp only[eqC,Bool.and_true];by_cases h1:a=a'<;>by_cases h2:b=b'<;>simp[h1,h2]
def OpV.Fine(o:OpV):Prop:=isG o.au=true∧o.st≤1000000000000∧o.e<500000003∧o.s<500000003∧FineAct o.k o.key o.vk o.num o.bits o.t
instance(o:OpV):Decidable o.Fine:=by unfold OpV.Fine;infer_instance
def checkE(o:OpV):Int:=if 4<o.n then 4 else if Rising o.n o.ids then(if o.Fine then 0 else 8)else 32
theorem check4{o:OpV}(h:4<o.n):(4:Int)=checkE o:=by unfold checkE;rw[if_pos h]
theorem check32{o:OpV}(h:¬4<o.n)(hr:¬Rising o.n o.ids):(32:Int)=checkE o:=by unfold checkE;rw[if_neg h,if_neg hr]
theorem check8{o:OpV}(h:¬4<o.n)(hr:Rising o.n o.ids)(hf:¬o.Fine):(8:Int)=checkE o:=by unfold checkE;rw[if_neg h,if_pos hr,if_neg hf]
theorem check0{o:OpV}(h:¬4<o.n)(hr:Rising o.n o.ids)(hf:o.Fine):(0:Int)=checkE o:=by unfold checkE;rw[if_neg h,if_pos hr,if_pos hf]
theorem checkA{o:OpV}(h:¬4<o.n)(hr:Rising o.n o.ids)(h1:isG o.au=true)(h2:o.st≤1000000000000)(h3:o.e<500000003)(h4:o.s<500000003):actE o.k o.key o.vk o.num o.bits o.t=checkE o:=by
 by_cases hf:FineAct o.k o.key o.vk o.num o.bits o.t
 ·rw[←check0 h hr ⟨h1,h2,h3,h4,hf⟩,←actE_pos hf]
 ·rw[←check8 h hr (fun h=>hf h.2.2.2.2),←actE_neg hf]
theorem check_zero{o:OpV}:checkE o=0↔o.n≤4∧Rising o.n o.ids∧o.Fine:=by
 unfold checkE;by_cases h:4<o.n<;>by_cases hr:Rising o.n o.ids<;>by_cases hf:o.Fine<;>simp[h,hr,hf]<;>omega
def msgS(o:OpV):List Int:=[111]++numS o.au++listS o.n o.ids++numS o.st++[o.k]++(if o.k=1 then []else(numS o.key.size++bys o.key)++(if o.k=4 then valS o.vk o.num o.bits o.t else []))
def encS(o:OpV):List Int:=msgS o++numS o.e++numS o.s
def OpV.bare(o:OpV):OpV:= {o with e:=0,s:=0}
theorem OpV.bare_ok{o:OpV}(h:o.ok):o.bare.ok:=⟨h.au,h.st,h.k,h.vk,h.num,h.bits,⟨(by decide:(0:Int)≤0),(by decide:(0:Int)<4294967296)⟩,⟨(by decide:(0:Int)≤0),(by decide:(0:Int)<4294967296)⟩,h.n,h.key,h.t⟩
theorem valS_len(k num bits:Int)(t:ByteArray)(h:t.size≤100):(valS k num bits t).length≤110:=by
 have h1:=numS_len (zig num);have h2:=numS_len (t.size:Int);unfold valS
 repeat' split
 all_goals simp[be8_len,bys_len]
 all_goals omega
theorem msg_len(o:OpV)(h:o.ok)(h4:o.n≤4)(hl:o.ids.length=32*o.n):(msgS o).length≤400:=by
 have h1:=numS_len o.au;have h2:=numS_len (o.n:Int);have h3:=numS_len o.st;have h5:=numS_len (o.key.size:Int);have h6:=valS_len o.vk o.num o.bits o.t h.t;have h7:=h.key;unfold msgS listS
 repeat' split
 all_goals simp[bys_len]
 all_goals omega
def SameO(a b:OpV):Prop:=a.au=b.au∧a.ids=b.ids∧a.st=b.st∧(a.k=b.k∧a.key=b.key∧a.vk=b.vk∧a.num=b.num∧a.bits=b.bits∧a.t=b.t)∧(a.e=b.e∧a.s=b.s)
instance(a b:OpV):Decidable (SameO a b):=by unfold SameO;infer_instance
end S
namespace W
theorem V2:type_of% underlying2:=underlying2
theorem V3:type_of% underlying3:=underlying3
theorem V4:type_of% underlying4:=underlying4
theorem V5:type_of% underlying5:=underlying5
theorem V9:type_of% underlying9:=underlying9
theorem V23:type_of% underlying23:=underlying23
theorem V24:type_of% underlying24:=underlying24
theorem V25:type_of% underlying25:=underlying25
theorem V26:type_of% underlying26:=underlying26
theorem V28:type_of% underlying28:=underlying28
theorem V30:type_of% underlying30:=underlying30
theorem V32:type_of% underlying32:=underlying32
theorem V34:type_of% underlying34:=underlying34
theorem V42:type_of% underlying42:=underlying42
theorem V137:type_of% underlying137:=underlying137
theorem V198:type_of% underlying198:=underlying198
theorem V230:type_of% underlying230:=underlying230
theorem V232:type_of% underlying232:=underlying232
theorem V260:type_of% underlying260:=underlying260
theorem V282:type_of% underlying282:=underlying282
open G
abbrev gK:Nat:=1
abbrev Kst(w:World)(T:TypeId):Prop:=KArr .u32 w gK 64 S.KK T
theorem mixed:prog.follows .mixedOrders=true:=by kernel_rfl
end W
namespace S
open G
structure OpV.rng(o:OpV):Prop where
 au:0≤o.au∧o.au<4294967296
 st:0≤o.st∧o.st<18446744073709551616
 k:0≤o.k∧o.k<256
 vk:0≤o.vk∧o.vk<256
 num: -9223372036854775808≤o.num∧o.num≤9223372036854775807
 bits:0≤o.bits∧o.bits<18446744073709551616
 e:0≤o.e∧o.e<4294967296
 s:0≤o.s∧o.s<4294967296
theorem OpV.rng.ok{o:OpV}(h:o.rng)(hG:¬(20<o.n∨100<o.key.size∨100<o.t.size)):o.ok:=
 ⟨h.au,h.st,h.k,h.vk,h.num,h.bits,h.e,h.s,by omega,by omega,by omega⟩
theorem sameO_refl(o:OpV):SameO o o:=⟨rfl,rfl,rfl,⟨rfl,rfl,rfl,rfl,rfl,rfl⟩,rfl,rfl⟩
theorem idX_arr(o:OpV):Arr .u8 32 (if checkE o=0 then sha (encS o)else List.replicate 32 0):=by
 split
 ·exact sha_arr _
 ·exact Arr.zeros .u8 32
end S
namespace L
open Go Go.Proofs.YtjjbdaiioociaaaGreatDoor G W
open Go.ChangeShapes Go.WideShapes Go.ChangeAt Go.RowKit
section
variable{H:Type}{enc:TypeId×Value→H}{P:Program}{w:World}{base:Nat}{sp:Nat→Bool}{held:Bool}{fuel:Nat}{cs:List Value}{x:DataW H×List MemPlace}{t:TypeId}
theorem int_in{k:IntKind}(ht:P.underlying t=some (.int k))(h:DataW.trod enc P w base sp held fuel t cs=some x):∃n,cs=[.int k n]∧k.min≤n∧n≤k.max:=by
  obtain⟨n,h1,_,h2⟩:=DataW.trod_int ht h;simp only[Lit.wf,Bool.and_eq_true,decide_eq_true_eq]at h2;exact⟨n,h1,h2.1,h2.2⟩
theorem fields_in{fs:Array Field}(ht:P.underlying t=some (.struct fs))(h:DataW.trod enc P w base sp held fuel t cs=some x):
    cs.length=P.cellsOf t∧∀(i:Nat) (f:Field),fs[i]? =some f→∃n y,DataW.trod enc P w base sp held n f.type ((cs.drop f.offset).take (P.cellsOf f.type))=some y:=by
  obtain⟨xs,n,_,_,hl,hlen,hf⟩:=DataW.trod_struct ht h;refine⟨hl,fun i f hi=>?_⟩;have hlt:i<xs.length:=by rw[hlen];exact(Array.getElem?_eq_some_iff.1 hi).1
  have:=hf i f hi;rw[List.getElem?_eq_getElem hlt]at this;exact⟨n,_,this⟩
theorem cells_in{a:Addr}{n:Nat}(h:w.cells? base a n=some cs):cs.length=n∧∀j,j<n→w.cell? (a.add j)=cs[j]? :=by
  unfold World.cells? at h;split at h
  · have h1:=mapM_some_length h
    refine⟨by simpa using h1,fun j hj=>?_⟩;exact mapM_some_get h j j (by simp[hj])
  · cases h
theorem bytes_in{e n:Nat}(ht:P.underlying t=some (.array n e))(he:P.underlying e=some (.int .u8))(hs:P.cellsOf e=1)(hts:P.cellsOf t=n)(h:DataW.trod enc P w base sp held fuel t cs=some x):∃xs,cs=ints .u8 xs∧Arr .u8 n xs:=by
  obtain⟨ys,m,_,_,hl,hlen,hf⟩:=DataW.trod_array ht h;rw[hts]at hl;have key:∀i,i<n→∃z,cs[i]? =some (.int .u8 z)∧0≤z∧z<256:=by
    intro i hi;have h1:=hf i hi;rw[List.getElem?_eq_getElem (by omega),hs,Nat.mul_one]at h1;obtain⟨z,h2,h3,h4⟩:=int_in he h1;refine⟨z,?_,h3,by have:z≤255:=h4;omega⟩;have:=congrArg (fun l=>l[0]?) h2;simpa [List.getElem?_take,List.getElem?_drop]using this
  clear hf hlen h;have gen:∀k,k≤n→∃xs:List Int,cs.take k=ints .u8 xs∧Arr .u8 k xs:=by
    intro k
    induction k with
    |zero=>intro _;exact⟨[],rfl,rfl,Bd.nil _⟩
    |succ k ih=>
      intro hk;obtain⟨xs,h1,h2,h3⟩:=ih (by omega);obtain⟨z,h4,h5⟩:=key k (by omega);refine⟨xs++[z],?_,by simp[h2],h3.append (.cons (by simp only[lim];omega) (.nil _))⟩;rw[List.take_add_one,h1,h4,ints_append];rfl
  obtain⟨xs,h1,h2⟩:=gen n (Nat.le_refl _);rw[List.take_of_length_le (by omega)]at h1;exact⟨xs,h1,h2⟩
theorem ids_in{e b sz:Nat}(ht:P.underlying t=some (.slice e))(he:P.underlying e=some (.array sz b))(hb:P.underlying b=some (.int .u8))(hs:P.cellsOf b=1)(hes:P.cellsOf e=sz)(hz:0<sz)(h:DataW.trod enc P w base sp held fuel t cs=some x):
    ∃a n c ids,cs=[.slice a n c]∧n≤c∧WRow .u8 sz (fun _=>True) w a n ids:=by
  rcases DataW.trod_slice ht h with⟨h1,_⟩|⟨a,len,cap,elems,rest,m,_,h1,_,_,hlc,_,hel,hf,_⟩
  · exact⟨none,0,0,[],h1,Nat.le_refl _,WRow.nil⟩
  · refine⟨some a,len,cap,?_⟩
    by_cases h0:len=0
    · subst h0
      exact⟨[],h1,hlc,WRow.nil⟩
    · have one:∀i,i<len→∃xs,Arr .u8 sz xs∧∀j,j<sz→w.cell? ((a.add (i*sz)).add j)=some (.int .u8 (xs.getD j 0)):=by
        intro i hi;have h2:=hf i hi;rw[List.getElem?_eq_getElem (by omega),hes]at h2;cases hc:w.cells? base (a.add (i*sz)) sz with
        |none=>rw[hc]at h2;cases h2
        |some ds=>
          rw[hc,Option.bind_some]at h2;obtain⟨xs,h3,h4⟩:=bytes_in he hb hs hes h2;obtain⟨h5,h6⟩:=cells_in hc;refine⟨xs,h4,fun j hj=>?_⟩;rw[h6 j hj,h3];have:j<xs.length:=by rw[h4.1];exact hj
          simp[ints,List.getD_eq_getElem?_getD,List.getElem?_eq_getElem this]
      obtain⟨b0,o,spot⟩:=a;obtain rfl:spot=none:=by
        obtain⟨xs,_,h3⟩:=one 0 (by omega);have:=World.cell?_spot (h3 0 hz);simpa [Addr.add]using this
      have gen:∀k,k≤len→∃ids:List Int,ids.length=sz*k∧Bd .u8 ids∧∀j,j<sz*k→w.cell? ⟨b0,o+j,none⟩=some (.int .u8 (ids.getD j 0)):=by
        intro k
        induction k with
        |zero=>intro _;exact⟨[],by simp,Bd.nil _,fun j hj=>by simp at hj⟩
        |succ k ih=>
          intro hk;obtain⟨ids,h2,h3,h4⟩:=ih (by omega);obtain⟨xs,h5,h6⟩:=one k (by omega);refine⟨ids++xs,by rw[List.length_append,h2,h5.1,Nat.mul_add,Nat.mul_one],h3.append h5.2,fun j hj=>?_⟩;rw[Nat.mul_add,Nat.mul_one]at hj;by_cases hj2:j<sz*k
          · rw[h4 j hj2,List.getD_eq_getElem?_getD,List.getD_eq_getElem?_getD,List.getElem?_append_left (by omega)]
          · have:=h6 (j - sz*k) (by omega)
            rw[add_mk,add_mk,Nat.mul_comm k,show o+sz*k+(j - sz*k)=o+j by omega]at this;rw[this,List.getD_eq_getElem?_getD,List.getD_eq_getElem?_getD,List.getElem?_append_right (by omega),h2]
      obtain⟨ids,h2,h3,h4⟩:=gen len (Nat.le_refl _);refine⟨ids,h1,hlc,⟨.inr ⟨b0,o,rfl,trivial,fun j hj=>?_⟩,h2,h3⟩⟩;rw[ints_length]at hj;rw[h4 j (by omega),ints_getD _ _ _ hj]
end
theorem own:ownKnob prog.godebug=none:=by kernel_rfl
theorem laidOut:laidOutB prog=true:=by kernel_rfl
section
end
end L
namespace L
open Go Go.Proofs.YtjjbdaiioociaaaGreatDoor G W
open Go.ChangeShapes Go.WideShapes Go.ChangeAt Go.RowKit
set_option maxRecDepth 100000
section
variable{H:Type}{enc:TypeId×Value→H}{P:Program}{w:World}{base:Nat}{sp:Nat→Bool}{held:Bool}{fuel:Nat}{cs:List Value}{x:DataW H×List MemPlace}{t:TypeId}
theorem field_in{fs:Array Field}{f:Field}{sz:Nat}(i:Nat)(ht:P.underlying t=some (.struct fs))(hi:fs[i]? =some f)(hs:P.cellsOf f.type=sz)(h:DataW.trod enc P w base sp held fuel t cs=some x):
    ∃n y,DataW.trod enc P w base sp held n f.type ((cs.drop f.offset).take sz)=some y:=by
  subst hs;exact(fields_in ht h).2 i f hi
end
theorem z_u8:prog.cellsOf 5=1:=by kernel_rfl
theorem z_u32:prog.cellsOf 24=1:=by kernel_rfl
theorem z_u64:prog.cellsOf 26=1:=by kernel_rfl
theorem z_i64:prog.cellsOf 2=1:=by kernel_rfl
theorem z_str:prog.cellsOf 9=1:=by kernel_rfl
theorem z_ids:prog.cellsOf 25=1:=by kernel_rfl
theorem z_id:prog.cellsOf 23=32:=by kernel_rfl
theorem z_val:prog.cellsOf 28=4:=by kernel_rfl
theorem z_act:prog.cellsOf 30=6:=by kernel_rfl
theorem z_sig:prog.cellsOf 32=2:=by kernel_rfl
theorem z_op:prog.cellsOf 34=11:=by kernel_rfl
section
variable{H:Type}{enc:TypeId×Value→H}{w:World}{base:Nat}{sp:Nat→Bool}{held:Bool}{fuel:Nat}{cs:List Value}{x:DataW H×List MemPlace}
theorem op_in(h:DataW.trod enc prog w base sp held fuel 34 cs=some x):
    ∃(o:S.OpV) (pa:Option Addr) (pc:Nat),cs=[.int .u32 o.au, .slice pa o.n pc, .int .u64 o.st, .int .u8 o.k, .string o.key, .int .u8 o.vk, .int .i64 o.num, .int .u64 o.bits, .string o.t, .int .u32 o.e, .int .u32 o.s]∧o.rng∧o.n≤pc∧WRow .u8 32 (fun _=>True) w pa o.n o.ids:=by
  have hl:=(fields_in underlying34 h).1;rw[z_op]at hl
  match cs,hl,h with
  |[c0,c1,c2,c3,c4,c5,c6,c7,c8,c9,c10],_,h=>
    obtain⟨_,_,f0⟩:=field_in 0 underlying34 rfl z_u32 h;obtain⟨_,_,f1⟩:=field_in 1 underlying34 rfl z_ids h;obtain⟨_,_,f2⟩:=field_in 2 underlying34 rfl z_u64 h;obtain⟨_,_,f3⟩:=field_in 3 underlying34 rfl z_act h;obtain⟨_,_,f4⟩:=field_in 4 underlying34 rfl z_sig h;obtain⟨au,e0,r0⟩:=int_in underlying24 f0;obtain⟨pa,n,pc,ids,e1,hc,hR⟩:=ids_in underlying25 underlying23 underlying5 z_u8 z_id (by decide) f1;obtain⟨st,e2,r2⟩:=int_in underlying26 f2;obtain⟨_,_,g0⟩:=field_in 0 underlying30 rfl z_u8 f3;obtain⟨_,_,g1⟩:=field_in 1 underlying30 rfl z_str f3;obtain⟨_,_,g2⟩:=field_in 2 underlying30 rfl z_val f3;obtain⟨k,e3,r3⟩:=int_in underlying5 g0;obtain⟨key,e4,_,_⟩:=DataW.trod_string underlying9 g1;obtain⟨_,_,v0⟩:=field_in 0 underlying28 rfl z_u8 g2;obtain⟨_,_,v1⟩:=field_in 1 underlying28 rfl z_i64 g2;obtain⟨_,_,v2⟩:=field_in 2 underlying28 rfl z_u64 g2;obtain⟨_,_,v3⟩:=field_in 3 underlying28 rfl z_str g2;obtain⟨vk,e5,r5⟩:=int_in underlying5 v0;obtain⟨num,e6,r6⟩:=int_in underlying2 v1;obtain⟨bits,e7,r7⟩:=int_in underlying26 v2;obtain⟨tx,e8,_,_⟩:=DataW.trod_string underlying9 v3;obtain⟨_,_,s0⟩:=field_in 0 underlying32 rfl z_u32 f4;obtain⟨_,_,s1⟩:=field_in 1 underlying32 rfl z_u32 f4;obtain⟨se,e9,r9⟩:=int_in underlying24 s0;obtain⟨ss,e10,r10⟩:=int_in underlying24 s1;have q0:[c0]=[Value.int .u32 au]:=e0;have q1:[c1]=[Value.slice pa n pc]:=e1;have q2:[c2]=[Value.int .u64 st]:=e2;have q3:[c3]=[Value.int .u8 k]:=e3;have q4:[c4]=[Value.string key]:=e4;have q5:[c5]=[Value.int .u8 vk]:=e5;have q6:[c6]=[Value.int .i64 num]:=e6;have q7:[c7]=[Value.int .u64 bits]:=e7;have q8:[c8]=[Value.string tx]:=e8;have q9:[c9]=[Value.int .u32 se]:=e9;have q10:[c10]=[Value.int .u32 ss]:=e10;simp only[List.cons.injEq,and_true]at q0 q1 q2 q3 q4 q5 q6 q7 q8 q9 q10;subst q0 q1 q2 q3 q4 q5 q6 q7 q8 q9 q10
    have u8:IntKind.min .u8=0∧IntKind.max .u8=255:=by decide
    have u32:IntKind.min .u32=0∧IntKind.max .u32=4294967295:=by decide
    have u64:IntKind.min .u64=0∧IntKind.max .u64=18446744073709551615:=by decide
    have i64:IntKind.min .i64= -9223372036854775808∧IntKind.max .i64=9223372036854775807:=by decide
    refine⟨⟨au,st,k,vk,num,bits,se,ss,n,ids,key,tx⟩,pa,pc,rfl,⟨?_,?_,?_,?_,?_,?_,?_,?_⟩,hc,hR⟩<;>dsimp only<;>omega
end
theorem gKnown:prog.globalNamed "braid/digest.constants" =some gK:=by kernel_rfl
theorem tKnown:(prog.globals[gK]?).map (·.type)=some 282:=by kernel_rfl
theorem laid_KK:(Rows.laid_braid_digest_constants:DataW Unit)= .agg (S.KK.map fun n=> .lit (.int .u32 n)):=rfl
theorem of_laid{W:World}(h:laidMetH prog [("braid/digest.constants",Rows.laid_braid_digest_constants)] W):Kst W 0:=by
  rw[MakeChecks.laidMetH_plain _ _ _ (by kernel_rfl)]at h;obtain⟨ps,⟨g0,t0,cs0,f0,p0,q0,hg0,ht0,hv0,hd0,_⟩,_⟩:=h;obtain rfl:=Option.some.inj (gKnown.symm.trans hg0);obtain rfl:=Option.some.inj (tKnown.symm.trans ht0);obtain⟨xs,m1,_,hx1,hlen,hn,hel⟩:=DataW.trod_array underlying282 hd0;rw[laid_KK]at hx1;simp only[Prod.mk.injEq,DataW.agg.injEq]at hx1;have hK:∀i,i<64→cs0[i]? =some (.int .u32 (S.KK.getD i 0)):=by
    intro i hi;have h1:=hel i hi;rw[z_u32,Nat.mul_one,List.getElem?_eq_getElem (by omega)]at h1;obtain⟨n,h2,h3,_⟩:=DataW.trod_int underlying24 h1;have h4:=congrArg (fun l=>l[i]?) hx1.1;simp only[List.getElem?_map]at h4;rw[List.getElem?_eq_getElem (show i<xs.length by omega),Option.map_some,h3]at h4;have h6:=congrArg (fun l=>l[0]?) h2;cases hq:S.KK[i]? with
    |none=>rw[hq]at h4;simp at h4
    |some z=>
      rw[hq]at h4;have hz:z=n:=by simpa using h4
      subst hz;rw[List.getD_eq_getElem?_getD,hq,Option.getD_some];simpa [List.getElem?_take,List.getElem?_drop]using h6
  have hcell:∀i,i<64→W.cell? ⟨gK,i,none⟩=some (.int .u32 (S.KK.getD i 0)):=fun i hi=>by
    rw[World.var?_cell gKnown hv0 i];exact hK i hi
  refine⟨fun j hj=>?_,rfl,show ∀x∈S.KK,0≤x∧x<4294967296 by decide,World.block_lt_of_cell? W _ (hcell 0 (by decide))⟩;have hkl:S.KK.length=64:=rfl;rw[ints_length]at hj;have hj':j<64:=by omega
  rw[Nat.zero_add,hcell j hj',ints_getD _ _ _ hj]
end L
namespace L
open Go Go.Proofs.YtjjbdaiioociaaaGreatDoor G W
open Go.ChangeShapes Go.WideShapes Go.ChangeAt Go.RowKit
theorem list_of{α:Type}(d:α)(Φ:Nat→α→Prop):∀n:Nat,(∀i,i<n→∃p,Φ i p)→∃ps:List α,ps.length=n∧∀i,i<n→Φ i (ps.getD i d)
  |0,_=>⟨[],rfl,fun i hi=>by omega⟩
  |n+1,h=>by
    obtain⟨ps,h1,h2⟩:=list_of d Φ n (fun i hi=>h i (by omega));obtain⟨p,hp⟩:=h n (by omega);refine⟨ps++[p],by simp[h1],fun i hi=>?_⟩;by_cases hin:i<n
    · have:=h2 i hin
      rw[List.getD_eq_getElem?_getD,List.getElem?_append_left (by omega),←List.getD_eq_getElem?_getD];exact this
    · obtain rfl:i=n:=by omega
      rw[List.getD_eq_getElem?_getD,List.getElem?_append_right (by omega),h1];simpa using hp
section
end
section
end
end L
namespace W
open Go.RowKit G
set_option maxRecDepth 20000
set_option maxHeartbeats 8000000
attribute [local irreducible] RS RX
theorem C24:prog.cellsOf 24=1:=by kernel_rfl
theorem T24:TI prog 24 1 4 [.int .u32 0]:=by
 have h:(prog.info? 24).map (fun i=>(i.size,i.bytes,i.zero))=some (1,4,some (.int .u32 0)):=by kernel_rfl
 exact TI.of h rfl
theorem E130:Enters prog 130:= .mk func130 (by kernel_rfl) rfl
theorem E149:Enters prog 149:= .mk func149 (by kernel_rfl) rfl
theorem E158:Enters prog 158:= .mk func158 (by kernel_rfl) rfl
theorem E165:Enters prog 165:= .mk func165 (by kernel_rfl) rfl
theorem E167:Enters prog 167:= .mk func167 (by kernel_rfl) rfl
theorem E196:Enters prog 196:= .mk func196 (by kernel_rfl) rfl
theorem ref_power(a n m:Int)(ha:0≤a∧a<4294967296)(hn:0≤n∧n<18446744073709551616)(hm:1<m∧m<4294967296)(w:World):
  Calls prog 149 #[.int .u64 a, .int .u64 n, .int .u64 m] w (Ret w fun v _=>v= .int .u64 (S.pw a n m)):=by
 refine eE 23 func149 rfl rfl fun hE=>?_
 refine sq fun _ J1=>RS.asI rfl ?_;refine nl J1 (sq fun _ J2=>?_);refine RS.asI rfl (nl J2 (wx fun _ J3=>wp_block ?_));refine C.loop (A:=Int×Int×Int) (fun p=>[(0, .int .u64 p.1),(1, .int .u64 p.2.1),(7, .int .u64 p.2.2)]) [8,9,10,11,12,13,14,15,16,17,18,19,20,21,22,23,24] (fun p w'=>Ext w w'∧((0≤p.1∧p.1<4294967296)∧(0≤p.2.1∧p.2.1<18446744073709551616)∧(0≤p.2.2∧p.2.2<m)∧p.2.2*p.1 ^ p.2.1.toNat % m=a ^ n.toNat % m)) (fun p=>p.2.1.toNat) (a,n,1) (by kernel_rfl) ?_ ?_
 ·exact⟨Ext.refl _,ha,hn,⟨by dsimp only;omega,hm.1⟩,by dsimp only;rw[Int.one_mul]⟩
 rintro p j w4 ⟨x4,hI⟩;have zw4:=x4.size;obtain⟨a1,n1,r1⟩:=p;dsimp only at hI;obtain⟨h1,h2,h3,h4⟩:=hI;have g1:=S.mul32 (show 0≤r1∧r1<4294967296 by omega) h1;have g2:=S.mul32 h1 h1;have g5:=Int.emod_nonneg (r1*a1) (show m≠0 by omega);have g6:=Int.emod_lt_of_pos (r1*a1) (show 0<m by omega);have g7:=Int.emod_nonneg (a1*a1) (show m≠0 by omega);have g8:=Int.emod_lt_of_pos (a1*a1) (show 0<m by omega);refine C.nmU ?_;refine wx fun _ J5=>sq fun _ J6=>RS.mvI rfl ?_;refine RS.og ?_;refine nl J6 (C.ifd rfl (fun c7=>?_) (fun c7=>?_))
 ·refine wp_skip (J5 _ _ (wp_block (wx fun _ J8=>sq fun _ J9=>RS.mvI rfl ?_)));refine RS.o (D.rem rfl rfl (by omega) (by omega)) ?_;refine RS.oq ?_;refine nl J9 ?_;refine C.ife rfl (fun c10=>?_) (fun c10=>?_)
  ·refine region (RS.mvI rfl (RS.mvI rfl ?_));refine RS.o (D.mul rfl rfl (W.u64 (by omega))) ?_;refine RS.mvI rfl ?_;refine RS.o (D.rem rfl rfl (by omega) (by omega)) ?_;refine RS.asI rfl ?_;refine nl J8 (sq fun _ J11=>?_);refine RS.mvI rfl (RS.mvI rfl ?_);refine RS.o (D.mul rfl rfl (W.u64 (by omega))) ?_;refine RS.mvI rfl ?_;refine RS.o (D.rem rfl rfl (by omega) (by omega)) ?_;refine RS.asI rfl (nl J11 (region (RS.mvI rfl ?_)));refine RS.o (D.quo rfl rfl (by omega) (by omega) (W.u64 (by omega))) ?_;refine RS.asI rfl (RS.nil ?_);change Nx _ _ _ _ _ _ _ _;refine C.next (_,_,_) ⟨rfl,rfl,rfl,trivial⟩ (by kernel_rfl) ?_ ?_
   ·exact⟨x4,⟨g7,by dsimp only;omega⟩,⟨by dsimp only;omega,by dsimp only;omega⟩,⟨g5,g6⟩,by dsimp only;rw[←h4];exact S.power_odd a1 r1 m n1 h2.1 ‹_›⟩
   dsimp only;omega
  refine wp_skip (J8 _ _ (sq fun _ J12=>RS.mvI rfl (RS.mvI rfl ?_)));refine RS.o (D.mul rfl rfl (W.u64 (by omega))) ?_;refine RS.mvI rfl ?_;refine RS.o (D.rem rfl rfl (by omega) (by omega)) ?_;refine RS.asI rfl (nl J12 (region (RS.mvI rfl ?_)));refine RS.o (D.quo rfl rfl (by omega) (by omega) (W.u64 (by omega))) ?_;refine RS.asI rfl (RS.nil ?_);change Nx _ _ _ _ _ _ _ _;refine C.next (_,_,_) ⟨rfl,rfl,rfl,trivial⟩ (by kernel_rfl) ?_ ?_
  ·exact⟨x4,⟨g7,by dsimp only;omega⟩,⟨by dsimp only;omega,by dsimp only;omega⟩,h3,by dsimp only;rw[←h4];exact S.power_even a1 r1 m n1 h2.1 ‹_›⟩
  dsimp only;omega
 refine wp_exit (J3 _ _ (sq fun _ J13=>RS.mvI rfl (RS.asI rfl (nl J13 (wp_ret ?_)))));refine retI rfl rfl ?_;replace hE:=Ext.tr hE x4;refine⟨_,rfl,hE,?_⟩;have h0:n1=0:=by omega
 rw[h0]at h4;unfold S.pw;rw[←h4];congr 1;rw[show(0:Int).toNat=0 from rfl,Int.pow_zero,Int.mul_one,Int.emod_eq_of_lt h3.1 h3.2]
theorem group_mul{S0:Nat→Prop}(m:Int)(a:Option Addr)(n c:Nat)(xs:List Int)(hm:1<m∧m<4294967296)(w:World)(R0:IRow .u32 S0 w a n xs)(hn:n≤1000):
  Calls prog 165 #[.int .u64 m, .slice a n c] w (Ret w fun v _=>v= .int .u32 (S.mulf m xs)):=by
 refine eE 21 func165 rfl rfl fun hE=>?_
 refine sq fun _ J1=>RS.asI rfl ?_;refine nl J1 (sq fun _ J2=>?_);refine RS.asI rfl (nl J2 (wx fun _ J3=>sq fun _ J4=>RS.mvS rfl ?_));refine RS.ln V260 ?_;refine RS.mvI rfl (nl J4 (wp_block ?_));refine C.loop (A:=Int×Int) (fun p=>[(5, .int .u64 p.2),(10, .int .i64 p.1)]) [7,11,12,13,14,15,16,17,18,19,20] (fun p w'=>Ext w w'∧((0≤p.1∧p.1≤n)∧(0≤p.2∧p.2<m)∧p.2=S.mulf m (xs.take p.1.toNat))) (fun p=>(n - p.1.toNat)) (0,1) (by kernel_rfl) ?_ ?_
 ·exact⟨Ext.refl _,⟨by decide,by dsimp only;omega⟩,⟨by decide,hm.1⟩,rfl⟩
 rintro p j w5 ⟨x5,hI⟩;have zw5:=x5.size;obtain⟨i,r⟩:=p;dsimp only at hI;obtain⟨h1,h2,h3⟩:=hI;refine C.nmU ?_;refine sq fun _ J6=>?_
 refine RS.ol ?_;refine nl J6 (wx fun _ J7=>?_);replace R0:=R0.ext x5;refine C.ifd rfl (fun c8=>?_) (fun c8=>?_)
 ·refine wp_skip (J7 _ _ (wx fun _ J9=>wp_block (sq fun _ J10=>?_)));refine RS.idx R0 rfl rfl V260 C24 (by omega) (fun b11 o11 v11 h11 q11 r11=>?_);refine RS.nm ?_;simp only[lim]at r11;refine RS.o (D.load rfl V24 rfl (h11)) ?_;refine RS.asI rfl (nl J10 ?_);have g1:=S.mul32 (show 0≤r∧r<4294967296 by omega) r11;refine region (RS.mvI rfl (RS.mvI rfl ?_));refine RS.cw V24 V26 ?_;refine RS.o (D.mul rfl rfl (W.u64 (by omega))) ?_;refine RS.mvI rfl ?_;refine RS.o (D.rem rfl rfl (by omega) (by omega)) ?_;refine RS.asI rfl (nl J9 (region ?_));refine RS.adi ?_;refine RS.mvI rfl (RS.nil ?_);change Nx _ _ _ _ _ _ _ _;refine C.next (_,_) ⟨rfl,rfl,trivial⟩ (by kernel_rfl) ?_ ?_
  ·refine⟨x5,⟨by dsimp only;omega,by dsimp only;omega⟩,⟨Int.emod_nonneg _ (by omega),Int.emod_lt_of_pos _ (by omega)⟩,?_⟩;dsimp only;rw[show(i+1).toNat=i.toNat+1 by omega,S.mulf_succ m xs _ (by rw[R0.len];omega),←h3,←q11]
  dsimp only;omega
 refine wp_exit (J3 _ _ (sq fun _ J12=>RS.mvI rfl ?_));refine RS.o (D.conv rfl V26 V24 (W.u32 (by omega))) ?_;refine RS.asI rfl (nl J12 (wp_ret ?_));refine retI rfl rfl ?_;replace hE:=Ext.tr hE x5;refine⟨_,rfl,hE,?_⟩;have h0:i.toNat=xs.length:=by rw[R0.len];omega
 rw[h3,h0,List.take_length]
theorem group_sq(b:Nat)(o:Int)(T:TypeId)(ho:0≤o∧o<1000000007)(w:World)(B0:Blk w b [.int .u32 o] T):
  Calls prog 196 #[.pointer (some ⟨b,0,none⟩)] w (fun e w'=>e= .returned (.tuple #[])∧Pr (fun k=>k=b) w w'∧Blk w' b [.int .u32 (o*o % 1000000007)] T):=by
 have hb:=B0.lt;have gg:=Int.emod_nonneg (o*o) (show(1000000007:Int)≠0 by decide);have gl:=Int.emod_lt_of_pos (o*o) (show(0:Int)<1000000007 by decide);have hE:=Pr.refl (fun k=>k=b) w;refine enterU 4 func196 rfl rfl ?_;refine region ?_;refine RS.ld V24 B0 ?_;refine RS.ld V24 B0 ?_;refine RS.bs2 V260 T24 (fun b1 w1 e1 s1 x1 B1=>?_);refine RS.nm ?_;have zw1:=x1.size;refine RS.call E165 (group_mul (S0:=fun b=>b=b1) _ _ 2 _ [o,o] (by omega) _ (.of_blk B1 rfl rfl rfl (.cons (k:= .u32) (by simp only[lim];omega) (.cons (k:= .u32) (by simp only[lim];omega) (.nil _)))) (by omega)) rfl (fun v2 w2 x2 A2=>?_);have zw2:=x2.size;subst A2;rw[S.mulf_two];refine RS.nm ?_;replace B0:=(B0.ext x1).ext x2;refine RS.store rfl (v:= .int _ _) rfl C24 rfl B0 rfl (fun w3 y3 N3=>?_);replace hE:=(hE.ext x1).ext x2;replace hE:=hE.stno y3;have zw3:=y3.size;replace B0:=N3;refine RS.nil ?_;refine retN (rs:=[]) (vs:=[]) rfl trivial rfl ?_;exact⟨rfl,hE,B0⟩
theorem group_pow(a n:Int)(ha:0≤a∧a<4294967296)(hn:0≤n∧n<18446744073709551616)(w:World):
  Calls prog 158 #[.int .u32 a, .int .u64 n] w (Ret w fun v _=>v= .int .u32 (S.pw a n 1000000007)):=by
 have gl:∀x:Int,0≤x % 1000000007∧x % 1000000007<1000000007:=fun x=>⟨Int.emod_nonneg _ (by decide),Int.emod_lt_of_pos _ (by decide)⟩
 refine eE 24 func158 rfl rfl fun hE=>?_
 refine sq fun _ J1=>RS.asI rfl ?_;refine nl J1 (sq fun _ J2=>?_);refine RS.alloc T24 (fun b3 w3 e3 s3 x3 B3=>?_);refine RS.nm ?_;have zw3:=x3.size;refine RS.store rfl (v:= .int _ _) rfl C24 rfl B3 rfl (fun w4 y4 N4=>?_);have zw4:=y4.size;replace B3:=N4;refine nl J2 (sq fun _ J5=>?_);refine RS.o (D.func (fs:=[]) (cs:=[.pointer _]) rfl rfl) ?_;refine RS.assign (v:= .func _ _ _) rfl ?_;refine nl J5 (wx fun _ J6=>sq fun _ J7=>RS.mvI rfl (nl J7 (wp_block ?_)));refine C.loop (A:=Int×Int) (fun p=>[(9, .int .i64 p.1)]) [7,10,11,12,13,14,15,16,17,18,19,20,21,22,23,24] (fun p w'=>Pr (fun b=>b=b3) w4 w'∧(Blk w' b3 [.int .u32 p.2] 24∧(0≤p.1∧p.1≤64)∧(0≤p.2∧p.2<1000000007)∧p.2=S.pw a (S.hi64 n p.1.toNat) 1000000007)) (fun p=>(64 - p.1.toNat)) (0,1) (by kernel_rfl) ?_ ?_
 ·exact⟨Pr.refl _ _,B3,by decide,by decide,by rw[show(0:Int).toNat=0 from rfl,S.hi64_zero n hn];show(1:Int)=a ^ (0:Nat) % 1000000007;rw[Int.pow_zero];rfl⟩
 rintro p j w8 ⟨x8,hI⟩;have zw8:=x8.size;obtain⟨i,r⟩:=p;dsimp only at hI;obtain⟨B3,h1,h2,h3⟩:=hI;have s3b:=B3.lt;refine C.nmU ?_;refine sq fun _ J9=>?_
 refine RS.ol ?_;refine nl J9 (wx fun _ J10=>C.ifd rfl (fun c11=>?_) (fun c11=>?_))
 ·refine wp_skip (J10 _ _ (wx fun _ J12=>wp_block (wx fun _ J13=>?_)));have gs:=S.shr_bd (63 - i).toNat hn;refine region (RS.mvI rfl (RS.asI rfl ?_));refine nl J13 (sq fun _ J14=>?_);refine RS.move (v:= .func _ _ _) rfl ?_;refine RS.callv E196 (group_sq _ r _ h2 _ B3) rfl rfl (fun e15 w15 A15=>?_);obtain⟨rfl,X15,N15⟩:=A15;refine⟨_,rfl,?_⟩;refine RS.nm ?_;replace hE:=(((Ext.tr hE x3).trans y4.belo).trans x8.belo).trans X15.belo;replace x8:=x8.prno X15;have zw15:=X15.size;replace B3:=N15;refine nl J14 (sq fun _ J16=>?_);refine RS.mvI rfl (RS.mvI rfl ?_);refine RS.o (D.sub rfl rfl (W.i64 (by omega))) ?_;refine RS.ob (D.shr_u64 rfl rfl (by omega) (by constructor<;>omega)) (fun z17=>?_);refine RS.ob (D.band_u64 rfl rfl (by omega) (by omega)) (fun z18=>?_);refine RS.oq ?_;refine nl J16 ?_;refine C.ife rfl (fun c19=>?_) (fun c19=>?_)
  ·refine region ?_;refine RS.ld V24 B3 ?_;refine RS.mvI rfl ?_;refine RS.bs2 V260 T24 (fun b20 w20 e20 s20 x20 B20=>?_);refine RS.nm ?_;have zw20:=x20.size;refine RS.call E165 (group_mul (S0:=fun b=>b=b20) _ _ 2 _ [r*r % 1000000007,a] (by omega) _ (.of_blk B20 rfl rfl rfl (.cons (k:= .u32) (by simp only[lim];omega) (.cons (k:= .u32) (by simp only[lim];omega) (.nil _)))) (by omega)) rfl (fun v21 w21 x21 A21=>?_);have zw21:=x21.size;subst A21;rw[S.mulf_two];refine RS.nm ?_;replace B3:=(B3.ext x20).ext x21;refine RS.store rfl (v:= .int _ _) rfl C24 rfl B3 rfl (fun w22 y22 N22=>?_);replace x8:=(x8.ext x20).ext x21;replace x8:=x8.stno y22;have zw22:=y22.size;replace B3:=N22;refine nl J12 (region ?_);refine RS.adi ?_;refine RS.mvI rfl (RS.nil ?_);change Nx _ _ _ _ _ _ _ _;refine C.next (_,r*r % 1000000007*a % 1000000007) ⟨rfl,trivial⟩ (by kernel_rfl) ?_ ?_
   ·refine⟨x8,B3,⟨by dsimp only;omega,by dsimp only;omega⟩,gl _,?_⟩;dsimp only;rw[show(i+1).toNat=i.toNat+1 by omega,←S.pw_step_one a n 1000000007 i.toNat hn.1 (by omega) (S.bit_one n i hn.1 (by omega) (by assumption)),←h3]
   dsimp only;omega
  refine wp_skip (J12 _ _ (region ?_));refine RS.adi ?_;refine RS.mvI rfl (RS.nil ?_);change Nx _ _ _ _ _ _ _ _;refine C.next (_,r*r % 1000000007) ⟨rfl,trivial⟩ (by kernel_rfl) ?_ ?_
  ·refine⟨x8,B3,⟨by dsimp only;omega,by dsimp only;omega⟩,gl _,?_⟩;dsimp only;rw[show(i+1).toNat=i.toNat+1 by omega,←S.pw_step_zero a n 1000000007 i.toNat hn.1 (by omega) (S.bit_zero n i hn.1 (by omega) (by assumption)),←h3]
  dsimp only;omega
 refine wp_exit (J6 _ _ (sq fun _ J23=>?_));refine RS.ld V24 B3 ?_;refine RS.asI rfl (nl J23 (wp_ret ?_));refine retI rfl rfl ?_;replace hE:=((Ext.tr hE x3).trans y4.belo).trans x8.belo;refine⟨_,rfl,hE,?_⟩;have h0:i.toNat=64:=by omega
 rw[h3,h0,S.hi64_all]
theorem group_Is(a:Int)(ha:0≤a∧a<4294967296)(w:World):
  Calls prog 130 #[.int .u32 a] w (Ret w fun v _=>v= .bool (S.isG a)):=by
 refine eE 13 func130 rfl rfl fun hE=>?_
 refine sq fun _ J1=>RS.asB rfl ?_;refine nl J1 (sq fun _ J2=>?_);refine RS.mvI rfl ?_;refine RS.og ?_;refine RS.mvB rfl ?_;refine RS.splitd 5 rfl rfl (fun c3=>?_) (fun c3=>?_)
 ·refine RS.nm ?_;refine RS.wt 5 ?_;refine RS.mvI rfl ?_;refine RS.wt 5 ?_;refine RS.ol ?_;refine RS.pk ?_;refine RS.mvB rfl ?_;refine RS.splitd 9 rfl rfl (fun c4=>?_) (fun c4=>?_)
  ·refine RS.nm ?_;refine RS.wt 9 ?_;refine RS.mvI rfl ?_;refine RS.wt 9 ?_;refine RS.call E158 (group_pow _ _ (by omega) (by omega) _) rfl (fun v5 w5 x5 A5=>?_);have zw5:=x5.size;subst A5;refine RS.nm ?_;refine RS.wt 9 ?_;refine RS.oq ?_;refine RS.pk ?_;refine RS.asB rfl (nl J2 (wp_ret ?_));refine retB rfl rfl ?_;replace hE:=Ext.tr hE x5;refine⟨_,rfl,hE,congrArg Value.bool ?_⟩;first|exact(S.isG_true (by omega) (by omega)).symm|exact(S.isG_lo (by omega)).symm|exact(S.isG_hi (by omega)).symm
  refine RS.nm ?_;refine RS.skF 9 ?_;refine RS.skF 9 ?_;refine RS.skF 9 ?_;refine RS.pkf ?_;refine RS.asB rfl (nl J2 (wp_ret ?_));refine retB rfl rfl ?_;refine⟨_,rfl,hE,congrArg Value.bool ?_⟩;first|exact(S.isG_true (by omega) (by omega)).symm|exact(S.isG_lo (by omega)).symm|exact(S.isG_hi (by omega)).symm
 refine RS.nm ?_;refine RS.skF 5 ?_;refine RS.skF 5 ?_;refine RS.pkf ?_;refine RS.mvB rfl ?_;refine RS.skF 9 ?_;refine RS.skF 9 ?_;refine RS.skF 9 ?_;refine RS.pkf ?_;refine RS.asB rfl (nl J2 (wp_ret ?_));refine retB rfl rfl ?_;refine⟨_,rfl,hE,congrArg Value.bool ?_⟩;first|exact(S.isG_true (by omega) (by omega)).symm|exact(S.isG_lo (by omega)).symm|exact(S.isG_hi (by omega)).symm
theorem ref_Is(a:Int)(ha:0≤a∧a<4294967296)(w:World):
  Calls prog 108 #[.int .u32 a] w (Ret w fun v _=>v= .bool (S.isG a)):=by
 refine eE 14 func108 rfl rfl fun hE=>?_
 refine sq fun _ J1=>RS.asB rfl ?_;refine nl J1 (sq fun _ J2=>?_);refine RS.mvI rfl ?_;refine RS.oe ?_;refine RS.mvB rfl ?_;refine RS.splitd 5 rfl rfl (fun c3=>?_) (fun c3=>?_)
 ·refine RS.nm ?_;refine RS.wt 5 ?_;refine RS.mvI rfl ?_;refine RS.wt 5 ?_;refine RS.ol ?_;refine RS.pk ?_;refine RS.mvB rfl ?_;refine RS.splitd 9 rfl rfl (fun c4=>?_) (fun c4=>?_)
  ·refine RS.nm ?_;refine RS.wt 9 ?_;refine RS.mvI rfl ?_;refine RS.wt 9 ?_;refine RS.o (D.conv rfl V24 V26 (by first|exact W.u64 (by omega)|exact W.u64m _)) ?_;refine RS.wt 9 ?_;refine RS.call E149 (ref_power _ _ _ (by omega) (by omega) (by omega) _) rfl (fun v5 w5 x5 A5=>?_);have zw5:=x5.size;subst A5;refine RS.nm ?_;refine RS.wt 9 ?_;refine RS.oq ?_;refine RS.pk ?_;refine RS.asB rfl (nl J2 (wp_ret ?_));refine retB rfl rfl ?_;replace hE:=Ext.tr hE x5;refine⟨_,rfl,hE,congrArg Value.bool ?_⟩;first|exact(S.isG_true (by omega) (by omega)).symm|exact(S.isG_lo (by omega)).symm|exact(S.isG_hi (by omega)).symm
  refine RS.nm ?_;refine RS.skF 9 ?_;refine RS.skF 9 ?_;refine RS.skF 9 ?_;refine RS.skF 9 ?_;refine RS.pkf ?_;refine RS.asB rfl (nl J2 (wp_ret ?_));refine retB rfl rfl ?_;refine⟨_,rfl,hE,congrArg Value.bool ?_⟩;first|exact(S.isG_true (by omega) (by omega)).symm|exact(S.isG_lo (by omega)).symm|exact(S.isG_hi (by omega)).symm
 refine RS.nm ?_;refine RS.skF 5 ?_;refine RS.skF 5 ?_;refine RS.pkf ?_;refine RS.mvB rfl ?_;refine RS.skF 9 ?_;refine RS.skF 9 ?_;refine RS.skF 9 ?_;refine RS.skF 9 ?_;refine RS.pkf ?_;refine RS.asB rfl (nl J2 (wp_ret ?_));refine retB rfl rfl ?_;refine⟨_,rfl,hE,congrArg Value.bool ?_⟩;first|exact(S.isG_true (by omega) (by omega)).symm|exact(S.isG_lo (by omega)).symm|exact(S.isG_hi (by omega)).symm
theorem ref_Exponent(a:Int)(ha:0≤a∧a<4294967296)(w:World):
  Calls prog 110 #[.int .u32 a] w (Ret w fun v _=>v= .bool (decide (a<500000003))):=by
 refine eE 5 func110 rfl rfl fun hE=>?_
 refine sq fun _ J1=>RS.asB rfl ?_;refine nl J1 (sq fun _ J2=>?_);refine RS.mvI rfl ?_;refine RS.cw V24 V26 ?_;refine RS.ol ?_;refine RS.asB rfl (nl J2 (wp_ret ?_));refine retB rfl rfl ?_;exact⟨_,rfl,hE,rfl⟩
theorem group_all{S0:Nat→Prop}(a:Option Addr)(n c:Nat)(xs:List Int)(w:World)(R0:IRow .u32 S0 w a n xs)(hn:n≤1000):
  Calls prog 167 #[.slice a n c] w (Ret w fun v _=>v= .bool (S.allG xs)):=by
 refine eE 14 func167 rfl rfl fun hE=>?_
 refine sAB rfl (wx fun _ J2=>sq fun _ J3=>RS.mvS rfl ?_);refine RS.ln V260 ?_;refine RS.mvI rfl (nl J3 (wp_block ?_));refine C.loop (A:=Int) (fun p=>[(7, .int .i64 p)]) [2,4,8,9,10,11,12,13,14] (fun p w'=>Ext w w'∧((0≤p∧p≤n)∧S.allG (xs.take p.toNat)=true)) (fun p=>(n - p.toNat)) 0 (by kernel_rfl) ?_ ?_
 ·exact⟨Ext.refl _,⟨by decide,by omega⟩,rfl⟩
 rintro p j w4 ⟨x4,hI⟩;have zw4:=x4.size;obtain⟨h1,h2⟩:=hI;replace R0:=R0.ext x4;have hl:=R0.len;refine C.nmU ?_;refine sq fun _ J5=>?_
 refine RS.ol ?_;refine nl J5 (wx fun _ J6=>?_);replace hE:=Ext.tr hE x4;refine C.ifd rfl (fun c7=>?_) (fun c7=>?_)
 ·refine wp_skip (J6 _ _ (wx fun _ J8=>wp_block (sq fun _ J9=>?_)));refine RS.idx R0 rfl rfl V260 C24 (by omega) (fun b10 o10 v10 h10 q10 r10=>?_);refine RS.nm ?_;simp only[lim]at r10;refine RS.o (D.load rfl V24 rfl (h10)) ?_;refine RS.asI rfl ?_;refine nl J9 (sq fun _ J11=>?_);refine RS.mvI rfl ?_;refine RS.call E130 (group_Is _ (by omega) _) rfl (fun v12 w12 x12 A12=>?_);replace x4:=Ext.tr x4 x12;have zw12:=x12.size;subst A12;refine RS.nm ?_;refine RS.o (D.not rfl) ?_;refine nl J11 ?_;refine C.ifnot rfl (fun c13=>?_) (fun c13=>?_)
  ·refine sAB rfl (wp_ret ?_);refine retB rfl rfl ?_;replace hE:=Ext.tr hE x12;refine⟨_,rfl,hE,congrArg Value.bool ?_⟩;exact(S.allG_false xs p.toNat (by omega) (by rw[←q10];assumption)).symm
  refine wp_skip (J8 _ _ (region ?_));refine RS.adi ?_;refine RS.mvI rfl (RS.nil ?_);change Nx _ _ _ _ _ _ _ _;refine C.next _ ⟨rfl,trivial⟩ (by kernel_rfl) ?_ ?_
  ·refine⟨x4,⟨by omega,by omega⟩,?_⟩;rw[show(p+1).toNat=p.toNat+1 by omega,S.allG_take xs _ (by omega) h2,←q10];assumption
  omega
 refine wp_exit (J2 _ _ (sAB rfl (wp_ret ?_)));refine retB rfl rfl ?_;refine⟨_,rfl,hE,congrArg Value.bool ?_⟩;rw[show p.toNat=xs.length by omega,List.take_length]at h2;exact h2.symm
theorem group_Base(n:Int)(hn:0≤n∧n<18446744073709551616)(w:World):
  Calls prog 119 #[.int .u64 n] w (Ret w fun v _=>v= .int .u32 (S.pw 4 n 1000000007)):=by
 refine eE 4 func119 rfl rfl fun hE=>?_
 refine sq fun _ J1=>RS.asI rfl ?_;refine nl J1 (sq fun _ J2=>?_);refine RS.mvI rfl ?_;refine RS.call E158 (group_pow _ _ (by omega) (by omega) _) rfl (fun v3 w3 x3 A3=>?_);have zw3:=x3.size;subst A3;refine RS.nm ?_;refine RS.asI rfl (nl J2 (wp_ret ?_));refine retI rfl rfl ?_;replace hE:=Ext.tr hE x3;exact⟨_,rfl,hE,rfl⟩
theorem group_Pow(a:Int)(ha:0≤a∧a<4294967296)(n:Int)(hn:0≤n∧n<18446744073709551616)(w:World):
  Calls prog 132 #[.int .u32 a, .int .u64 n] w (Ret w fun v _=>v= .tuple #[.int .u32 (if S.isG a then S.pw a n 1000000007 else 0), .int .i64 (if S.isG a then 0 else 2)]):=by
 refine eE 11 func132 rfl rfl fun hE=>?_
 refine sq fun _ J1=>RS.asI rfl (RS.asI rfl (nl J1 (wx fun _ J2=>sq fun _ J3=>RS.mvI rfl ?_)));refine RS.bs1 V260 T24 (fun b4 w4 e4 s4 x4 B4=>?_);refine RS.nm ?_;have zw4:=x4.size;refine RS.call E167 (group_all (S0:=fun b=>b=b4) _ 1 _ [a] _ (.of_blk B4 rfl rfl rfl (.cons (k:= .u32) (by simp only[lim];omega) (.nil _))) (by omega)) rfl (fun v5 w5 x5 A5=>?_);have zw5:=x5.size;subst A5;rw[S.allG_one];refine RS.nm ?_;refine RS.o (D.not rfl) ?_;refine nl J3 ?_;replace hE:=Ext.tr (Ext.tr hE x4) x5;refine C.ifnot rfl (fun c6=>?_) (fun c6=>?_)
 ·refine sq fun _ J7=>RS.asI rfl (RS.asI rfl (nl J7 (wp_ret ?_)));refine retII ?_;refine⟨_,rfl,hE,?_⟩;simp[*]
 refine wp_skip (J2 _ _ (sq fun _ J8=>RS.mvI rfl (RS.mvI rfl ?_)));refine RS.call E158 (group_pow _ _ (by omega) (by omega) _) rfl (fun v9 w9 x9 A9=>?_);have zw9:=x9.size;subst A9;refine RS.nm ?_;refine RS.asI rfl (RS.asI rfl (nl J8 (wp_ret ?_)));refine retII ?_;replace hE:=Ext.tr hE x9;refine⟨_,rfl,hE,?_⟩;simp[*]
theorem group_Mul(a:Int)(ha:0≤a∧a<4294967296)(b:Int)(hb:0≤b∧b<4294967296)(w:World):
  Calls prog 133 #[.int .u32 a, .int .u32 b] w (Ret w fun v _=>v= .tuple #[.int .u32 (if S.isG a&&S.isG b then a*b % 1000000007 else 0), .int .i64 (if S.isG a&&S.isG b then 0 else 2)]):=by
 refine eE 13 func133 rfl rfl fun hE=>?_
 refine sq fun _ J1=>RS.asI rfl (RS.asI rfl (nl J1 (wx fun _ J2=>sq fun _ J3=>RS.mvI rfl (RS.mvI rfl ?_))));refine RS.bs2 V260 T24 (fun b4 w4 e4 s4 x4 B4=>?_);refine RS.nm ?_;have zw4:=x4.size;refine RS.call E167 (group_all (S0:=fun b=>b=b4) _ 2 _ [a,b] _ (.of_blk B4 rfl rfl rfl (.cons (k:= .u32) (by simp only[lim];omega) (.cons (k:= .u32) (by simp only[lim];omega) (.nil _)))) (by omega)) rfl (fun v5 w5 x5 A5=>?_);have zw5:=x5.size;subst A5;rw[S.allG_two];refine RS.nm ?_;refine RS.o (D.not rfl) ?_;refine nl J3 ?_;replace hE:=Ext.tr (Ext.tr hE x4) x5;refine C.ifnot rfl (fun c6=>?_) (fun c6=>?_)
 ·refine sq fun _ J7=>RS.asI rfl (RS.asI rfl (nl J7 (wp_ret ?_)));refine retII ?_;refine⟨_,rfl,hE,?_⟩;simp[*]
 refine wp_skip (J2 _ _ (sq fun _ J8=>RS.mvI rfl (RS.mvI rfl ?_)));refine RS.bs2 V260 T24 (fun b9 w9 e9 s9 x9 B9=>?_);refine RS.nm ?_;have zw9:=x9.size;refine RS.call E165 (group_mul (S0:=fun b=>b=b9) _ _ 2 _ [a,b] (by omega) _ (.of_blk B9 rfl rfl rfl (.cons (k:= .u32) (by simp only[lim];omega) (.cons (k:= .u32) (by simp only[lim];omega) (.nil _)))) (by omega)) rfl (fun v10 w10 x10 A10=>?_);have zw10:=x10.size;subst A10;rw[S.mulf_two];refine RS.nm ?_;refine RS.asI rfl (RS.asI rfl (nl J8 (wp_ret ?_)));refine retII ?_;replace hE:=Ext.tr (Ext.tr hE x9) x10;refine⟨_,rfl,hE,?_⟩;simp[*]
theorem group_Plus(a:Int)(ha:0≤a∧a<4294967296)(b:Int)(hb:0≤b∧b<4294967296)(w:World):
  Calls prog 128 #[.int .u32 a, .int .u32 b] w (Ret w fun v _=>v= .tuple #[.int .u32 (if max a b<500000003 then(a+b) % 500000003 else 0), .int .i64 (if max a b<500000003 then 0 else 2)]):=by
 refine eE 12 func128 rfl rfl fun hE=>?_
 refine sq fun _ J1=>RS.asI rfl (RS.asI rfl (nl J1 (wx fun _ J2=>sq fun _ J3=>RS.mvI rfl (RS.mvI rfl ?_))));refine RS.o (D.max2 rfl rfl) ?_;refine RS.oe ?_;refine nl J3 (C.ifd rfl (fun c4=>?_) (fun c4=>?_))
 ·refine sq fun _ J5=>RS.asI rfl (RS.asI rfl (nl J5 (wp_ret ?_)));refine retII ?_;refine⟨_,rfl,hE,?_⟩;first|rw[if_pos (by omega),if_pos (by omega)]|rw[if_neg (by omega),if_neg (by omega)]
 refine wp_skip (J2 _ _ (sq fun _ J6=>RS.mvI rfl (RS.mvI rfl ?_)));refine RS.o (D.add rfl rfl (W.u32 (by omega))) ?_;refine RS.o (D.rem rfl rfl (by omega) (by omega)) ?_;refine RS.asI rfl (RS.asI rfl (nl J6 (wp_ret ?_)));refine retII ?_;refine⟨_,rfl,hE,?_⟩;first|rw[if_pos (by omega),if_pos (by omega)]|rw[if_neg (by omega),if_neg (by omega)]
theorem group_Times(a:Int)(ha:0≤a∧a<4294967296)(b:Int)(hb:0≤b∧b<4294967296)(w:World):
  Calls prog 127 #[.int .u32 a, .int .u32 b] w (Ret w fun v _=>v= .tuple #[.int .u32 (if max a b<500000003 then a*b % 500000003 else 0), .int .i64 (if max a b<500000003 then 0 else 2)]):=by
 refine eE 12 func127 rfl rfl fun hE=>?_
 refine sq fun _ J1=>RS.asI rfl (RS.asI rfl (nl J1 (wx fun _ J2=>sq fun _ J3=>RS.mvI rfl (RS.mvI rfl ?_))));refine RS.o (D.max2 rfl rfl) ?_;refine RS.oe ?_;refine nl J3 (C.ifd rfl (fun c4=>?_) (fun c4=>?_))
 ·refine sq fun _ J5=>RS.asI rfl (RS.asI rfl (nl J5 (wp_ret ?_)));refine retII ?_;refine⟨_,rfl,hE,?_⟩;first|rw[if_pos (by omega),if_pos (by omega)]|rw[if_neg (by omega),if_neg (by omega)]
 refine wp_skip (J2 _ _ (sq fun _ J6=>RS.mvI rfl (RS.mvI rfl ?_)));refine RS.bs2 V260 T24 (fun b7 w7 e7 s7 x7 B7=>?_);refine RS.nm ?_;have zw7:=x7.size;refine RS.call E165 (group_mul (S0:=fun b=>b=b7) _ _ 2 _ [a,b] (by omega) _ (.of_blk B7 rfl rfl rfl (.cons (k:= .u32) (by simp only[lim];omega) (.cons (k:= .u32) (by simp only[lim];omega) (.nil _)))) (by omega)) rfl (fun v8 w8 x8 A8=>?_);have zw8:=x8.size;subst A8;rw[S.mulf_two];refine RS.nm ?_;refine RS.asI rfl (RS.asI rfl (nl J6 (wp_ret ?_)));refine retII ?_;replace hE:=Ext.tr (Ext.tr hE x7) x8;refine⟨_,rfl,hE,?_⟩;first|rw[if_pos (by omega),if_pos (by omega)]|rw[if_neg (by omega),if_neg (by omega)]
end W
end Go.Proofs.YtjjbdaiioociaaaGreatDoor
