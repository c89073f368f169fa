/-
  Part 12 of the lemmas of these laws: ShardNames.
-/
import Derived.Test.YtkibkhgcbepolaaGreatDoorPSn11
set_option linter.unusedVariables false
set_option linter.unusedSimpArgs false
open Go.Proofs.Tryz
namespace Go.Proofs.YtkibkhgcbepolaaGreatDoor
namespace G
open Go.RowKit
section
variable{P:Program}{w:World}
theorem zeros_all{zs:List Value}(q:Nat)(hz:zs.all cellB=true)(h0:0<zs.length):∀u∈(Builtin.zeroCells zs.toArray q).toList,cellB u=true:=by
 intro u hu;unfold Builtin.zeroCells at hu;simp only[Array.toList_map,List.mem_map,List.size_toArray]at hu;obtain⟨i,_,rfl⟩:=hu;have hm:i % zs.length<zs.length:=Nat.mod_lt _ h0;have:zs.toArray[i % zs.length]! =zs[i % zs.length]:=by simp[hm]
 rw[this];exact List.all_eq_true.1 hz _ (List.getElem_mem hm)
theorem run_clr{t ty e sz by_:Nat}{zs:List Value}{g o q c:Nat}{cs:List Value}(hu:P.underlying t=some (.slice e))(ht:TI P e sz by_ zs)(hl:zs.length=sz)(h0:0<sz)(hz:zs.all cellB=true)(B:Blk w g cs e)(hq:0<q)(hfit:o+q*sz≤cs.length):
  ∃w' cs',(Builtin.clear_ #[t] ty #[.slice (some ⟨g,o,none⟩) q c]).run P w= .ok (.tuple #[]) w'∧St g w w'∧Blk w' g cs' e∧cs'.length=cs.length∧cs'.take o=cs.take o:=by
 obtain⟨i,v,i1,i2,i3,i4,i5⟩:=ht;have hz1:(zeroValue e).run P w= .ok v w:=by simp[zeroValue,typeInfo,i1,i4]
 have hzl:(Builtin.zeroCells zs.toArray q).toList.length=q*sz:=by simp[Builtin.zeroCells,hl]
 obtain⟨w1,k1,k2,k3⟩:=storeCells_blk (P:=P) (b:=g) (o:=o) (Builtin.zeroCells zs.toArray q).toList 0 cs w B (by omega) (zeros_all q hz (by omega));rw[Nat.add_zero]at k3;refine⟨w1,_,?_,k2,k3,splice_length _ _ _,?_⟩
 ·obtain⟨q',rfl⟩:∃q',q=q'+1:=⟨q - 1,by omega⟩
  simp[Builtin.clear_,run_underlying hu,hz1,i5,k1]
 ·rw[splice_mid _ _ _ (by omega),List.append_assoc,List.take_append_of_le_length (by rw[List.length_take];omega),List.take_of_length_le (by rw[List.length_take];omega)]
end
section
variable{S0:Nat→Prop}{w0:World}{L:List Ent}{P:Program}{ops:Array Oper}{K:List Value→World→Prop}{rest:List (Oper×Kd)}{l l':List Value}{m:Md}{d:Tmp}{ty xt t e:TypeId}{pos:String}{af:Array Edge}{kd:Kd}{x y lo hi mx:Operand}{sz by_:Nat}{zs:List Value}
theorem J.clr{g o q c:Nat}{cs:List Value}{F:List Value→List Ent}[U:Und P t (.slice e)][I:Inf P e sz by_ zs](hx:ev l x= .slice (some ⟨g,o,none⟩) q c)[R:RB L g cs e F]
  (kk:∀cs',(cs'.length=cs.length∧cs'.take o=cs.take o)→J S0 w0 (F cs') (RY S0 w0 m P ops K rest l))(hq:0<q:=by omega)(hfit:o+q*sz≤cs.length:=by omega)(hl:zs.length=sz:=by rfl)(h0:0<sz:=by decide)(hz:zs.all cellB=true:=by rfl)(hk:∀cs',okG m kd (F cs'):=by first|exact fun _=>trivial|(intro _;repeat(first|exact List.Sublist.refl _|refine List.Sublist.cons_cons _ ?_|refine List.Sublist.cons _ ?_))):
  J S0 w0 L (RY S0 w0 m P ops K ((⟨none, .call {callee:= .builtin .clear,args:= #[x],argTypes:= #[t]},ty,pos,af,none⟩,kd)::rest) l):=
 J.bigs (ι:=List Value) (Ls:=fun cs'=>F cs') cs (fun cs'=>hk cs') fun w M K' hK=>by
  obtain⟨w1,cs',h,x1,B,e1,e2⟩:=run_clr (ty:=ty) (c:=c) U.h I.h hl h0 hz (M.blk (R.h cs).same) hq hfit;refine RS.v (v:= .tuple #[]) (w':=w1) rfl (by simp[execOp,resolve,hx,invoke,builtin,h]) (RS.nil (hK _ w1 cs' (M.store (R.h _) x1 B) ?_));exact kk cs' ⟨e1,e2⟩ w1 (M.store (R.h _) x1 B)
end
def cgB:List (Oper×Kd)→Bool
 |[]=>true
 |(_, .c)::r=>cgB r
 |(_, .g)::r=>cgB r
 |_=>false
theorem rx_irrel{P:Program}{ops:Array Oper}{R R':World→World→Prop}{K:List Value→World→Prop}:∀(pl:List (Oper×Kd)) (l:List Value) (w:World),cgB pl=true→RX P ops R K pl l w→RX P ops R' K pl l w
 |[],_,_,_,h=>h
 |(o, .q)::_,_,_,hk,_=>by cases hk
 |(o, .e)::_,_,_,hk,_=>by cases hk
 |(o, .c)::r,l,w,hk,h=>by
  simp only[RX]at h⊢;split at h
  ·rename_i hw;rw[if_pos hw];obtain⟨v,h1,h2⟩:=h;exact⟨v,h1,rx_irrel r _ _ hk h2⟩
  ·rename_i hw;rw[if_neg hw];exact rx_irrel r _ _ hk h
 |(o, .g)::r,l,w,hk,h=>by
  simp only[RX]at h⊢;split at h
  ·rename_i hw;rw[if_pos hw];unfold Oper.wp at*;refine upon_mono ?_ (fun _ _ _ h=>h) h;rintro a w' ⟨l',rfl,h⟩;exact⟨l',rfl,rx_irrel r _ _ hk h⟩
  ·rename_i hw;rw[if_neg hw];exact rx_irrel r _ _ hk h
def WG(S0:Nat→Prop)(w0:World)(Lq:List Ent)(bg fl:List Nat)(P:Program)(l0:List Oper)(K:List Value→World→Prop)(n:Nat)(li:Array Bool)(l:List Value)(w:World):Prop:=
 Closed l0.toArray li→wpX P l0.toArray (MR S0 w0 Lq) bg (fun a w=>∃l,a=fr l∧K l w) n li (fr l) w
def BG(S0:Nat→Prop)(w0:World)(Lq:List Ent)(bg fl:List Nat)(P:Program)(l0:List Oper)(K:List Value→World→Prop)(n:Nat)(li:Array Bool):List Nat→List Value→World→Prop
 |[],_,_=>True
 |i::rd,l,w=>RX P l0.toArray (MR S0 w0 Lq) (WG S0 w0 Lq bg fl P l0 K n (li.setIfInBounds i true)) [(nth l0 i, .e)] l w∧BG S0 w0 Lq bg fl P l0 K n li rd l w
def bgB(ops:Array Oper)(bg fl:List Nat):Bool:=bg.all fun j=>bigB ops fl j
theorem bgB_spec{ops:Array Oper}{bg fl:List Nat}(h:bgB ops bg fl=true):∀j∈bg,∀listed,Closed ops listed→j∈Region.ready .any ops listed→∀k∈Region.ready .any ops listed,k=j∨k∈fl:=by
 unfold bgB at h;rw[List.all_eq_true]at h;exact fun j hj listed hcl hr=>bigB_spec (h j hj) listed hcl hr
section
variable{S0:Nat→Prop}{w0:World}{L Lq:List Ent}{bg fl:List Nat}{P:Program}{Q:Exit→Act→World→Prop}{l:List Value}{id n n':Nat}{l0:List Oper}{K:List Value→World→Prop}{li:Array Bool}{rd:List Nat}{ops:Array Oper}
theorem J.sw{pl:List (Oper×Kd)}(hk:cgB pl=true)(h:J S0 w0 L (RY S0 w0 .x P ops K pl l)):J S0 w0 L (RY S0 w0 (.r Lq) P ops K pl l):=fun w M _=>rx_irrel (R:=Ext) pl l w hk (h w M)
theorem BG.get{k:Nat}{w:World}:∀ {rd:List Nat},BG S0 w0 Lq bg fl P l0 K n li rd l w→k∈rd→RX P l0.toArray (MR S0 w0 Lq) (WG S0 w0 Lq bg fl P l0 K n (li.setIfInBounds k true)) [(nth l0 k, .e)] l w
 |_::_,h, .head _=>h.1
 |_::_,h, .tail _ hk=>BG.get h.2 hk
theorem J.regionG(Lq:List Ent)(bg fl:List Nat)(hm:P.follows .mixedOrders=true)(h:J S0 w0 L (WG S0 w0 Lq bg fl P l0 (KN Q) l0.length (Array.replicate l0.length false) l)):J S0 w0 L ((Code.region id l0.toArray true).wp P Q (fr l)):=fun w M=>by
 refine wp_region_any hm ?_;have:=h {w with drawn:=w.drawn+1} (M.grow ((Below.refl _ _).drew)) (by intro k ok _ h;exfalso;simp[Array.getElem?_replicate]at h;split at h<;>simp at h);have h2:=wpAny_of_X (Q':=Q) (R:=MR S0 w0 Lq) (fun a w h=>by obtain⟨l,rfl,h⟩:=h;exact h) l0.length (Array.replicate l0.length false) (fr l) _ this;simpa using h2
theorem J.gnode{pl':List (Oper×Kd)}(pl:List (Nat×Kd))(rd:List Nat)(n':Nat)(li':Array Bool)
  (hB:(Region.noSelect l0.toArray&&(bgB l0.toArray bg fl&&(noG pl&&(Nat.beq (n'+1+pl.length) n&&(!rd.isEmpty&&planB l0.toArray fl (fun s=>(Region.ready .any l0.toArray s==rd)&&(s.toList==li'.toList&&rd.all fun i=> !bg.any (Nat.beq i))) pl li)))))=true)
  (h:J S0 w0 L (RY S0 w0 (.r Lq) P l0.toArray (BG S0 w0 Lq bg fl P l0 K n' li' rd) pl' l))(hs:Lq.Sublist L:=by repeat(first|exact List.Sublist.refl _|refine List.Sublist.cons_cons _ ?_|refine List.Sublist.cons _ ?_))(hp:pick l0 pl=pl':=by dsimp only[pick,nth]):J S0 w0 L (WG S0 w0 Lq bg fl P l0 K n li l):=fun w M hcl=>by
 simp only[Bool.and_eq_true]at hB;obtain⟨hns,hbg,hn,hz,hr0,hB⟩:=hB;have hz:=Nat.eq_of_beq_eq_true hz;subst hz;subst hp;have h1:RX P l0.toArray (MR S0 w0 Lq) (BG S0 w0 Lq bg fl P l0 K n' li' rd) (pick l0 pl) l w:=h w M (M.sub hs);refine rx_list (n:=n'+1) (bg:=bg) (fl:=fl) ?_ (fun _ h=>h) (fun h k x=>k (h x)) hns (bgB_spec hbg) pl li l w hcl (fun i hi=>by cases (noG_g hn).1 i hi) (fun i hi=>by cases (noG_g hn).2 i hi) hB h1;intro listed l w hcl he hk;simp only[Bool.and_eq_true,beq_iff_eq]at he;obtain⟨hr,hl,_⟩:=he;obtain rfl:listed=li':=Array.ext' hl;refine⟨fun h0=>by rw[h0]at hr;subst hr;simp at hr0,fun k hm=>?_⟩;have hk2:=BG.get hk (hr▸hm);have hlt:k<l0.length:=by
  obtain⟨_,o,ho,_⟩:=mem_ready.1 hm;simpa using(Array.getElem?_eq_some_iff.1 ho).1
 have hi:l0.toArray[k]? =some (nth l0 k):=by simpa using nth_get l0 k hlt
 unfold xOp;simp only[hi];simp only[RX]at hk2;split
 ·rename_i hw;rw[if_pos (by exact hw)]at hk2;unfold Oper.wp at*;refine upon_mono ?_ (fun _ _ _ h=>h) hk2;rintro a w' ⟨l',rfl,hR,h⟩;exact⟨fun _=>hR,h (hcl.set hm)⟩
 ·rename_i hw;rw[if_neg (by exact hw)]at hk2;rw[put_fr];exact⟨fun _=>fun h=>h,hk2 (hcl.set hm)⟩
theorem J.gfin{pl':List (Oper×Kd)}(pl:List (Nat×Kd))
  (hB:(Region.noSelect l0.toArray&&(bgB l0.toArray bg fl&&(((G.bigs pl).all (fun i=>bg.contains i)&&(G.frees pl).all (fun i=>fl.contains i))&&(Nat.beq pl.length n&&planB l0.toArray fl (endB l0.toArray) pl li))))=true)
  (h:J S0 w0 L (RY S0 w0 (.r Lq) P l0.toArray K pl' l))(hs:Lq.Sublist L:=by repeat(first|exact List.Sublist.refl _|refine List.Sublist.cons_cons _ ?_|refine List.Sublist.cons _ ?_))(hp:pick l0 pl=pl':=by dsimp only[pick,nth]):J S0 w0 L (WG S0 w0 Lq bg fl P l0 K n li l):=fun w M hcl=>by
 simp only[Bool.and_eq_true]at hB;obtain⟨hns,hbg,⟨hg,hf⟩,hz,hB⟩:=hB;have hz:=Nat.eq_of_beq_eq_true hz;subst hz;subst hp;have h1:RX P l0.toArray (MR S0 w0 Lq) K (pick l0 pl) l w:=h w M (M.sub hs);rw[List.all_eq_true]at hg hf;have:=rx_list (bg:=bg) (fl:=fl) (n:=0) (en:=endB l0.toArray) (Qx:=fun a w=>∃l,a=fr l∧K l w) (fun listed l w _ he hk=>⟨by simpa [endB]using he,l,rfl,hk⟩) (fun _ h=>h) (fun h k x=>k (h x)) hns (bgB_spec hbg) pl li l w hcl (fun i hi=>by simpa using hg i ((mem_bigs pl i).1 hi)) (fun i hi=>by simpa using hf i (mem_frees pl i hi)) hB h1;rwa[Nat.zero_add]at this
theorem J.gbr{i:Nat}{oi:Oper}(h1:J S0 w0 L (RY S0 w0 (.r Lq) P l0.toArray (WG S0 w0 Lq bg fl P l0 K n (li.setIfInBounds i true)) [(oi, .e)] l))(h2:J S0 w0 L (BG S0 w0 Lq bg fl P l0 K n li rd l))
  (hs:Lq.Sublist L:=by repeat(first|exact List.Sublist.refl _|refine List.Sublist.cons_cons _ ?_|refine List.Sublist.cons _ ?_))(hi:nth l0 i=oi:=by dsimp only[nth]):J S0 w0 L (BG S0 w0 Lq bg fl P l0 K n li (i::rd) l):=fun w M=>by
 subst hi;exact⟨h1 w M (M.sub hs),h2 w M⟩
theorem J.gbr0:J S0 w0 L (BG S0 w0 Lq bg fl P l0 K n li [] l):=fun _ _=>trivial
end
end G
namespace W
open Go.RowKit G
set_option maxRecDepth 20000
set_option maxHeartbeats 8000000
attribute [local irreducible] RS RX RY Code.wp bodyPost J Ent.blk Ent.iown Ent.wrow Ent.wown Ent.gown Ent.all Ent.emp
theorem gsAt{gs:List GrA}{g:GrA}{i:Nat}(h:gs[i]? =some g):(gs.map GrA.P).getD i S.PG.nil=g.P:=by
 rw[List.getD_eq_getElem?_getD,List.getElem?_map,h];rfl
theorem ShR.ml{S0:Nat→Prop}{w:World}{s:ShA}(h:ShR S0 w s):∀p∈s.gs.map GrA.P,p.ids.length=32*p.m:=fun p hp=>by
 obtain⟨g,hg,rfl⟩:=List.mem_map.1 hp;exact(h.gi g hg).ids.len
theorem ShR.le{S0:Nat→Prop}{w:World}{s:ShA}(h:ShR S0 w s)(hL:ShL s)(hn:s.pn≤4):(S.whole s.V.ps).m≤64:=by
 have h1:=S.whole_le (ps:=s.V.ps) h.ml;have h2:=hL hn;omega
instance:Fld prog 53 2 2:=⟨_,_,1,underlying53,rfl,by kernel_rfl,by decide,rfl⟩
instance:Fld prog 53 1 1:=⟨_,_,1,underlying53,rfl,by kernel_rfl,by decide,rfl⟩
theorem grAll_r{g:GrA}{S:Nat→Prop}{w:World}(h:(grAll g).ok S w)(k:GrK g)(hm:g.m≤70∧g.ops.length≤70):GrR (fun _=>True) w g:=by
 obtain⟨A,T,_,_,_,a,B,T2,_,_,_,b,C,T3,_,_,_,c,_⟩:=all_e h;have a:=(gown_e a).1;have c':=wown_row c;have hn:g.n≤70:=by have h1:=a.len;have h2:=hm.2;unfold GrA.ops at h2;rw[List.length_map]at h2;omega
 exact⟨c'.weaken fun _ _ _=>trivial,a.row.weaken fun _ _ _=>trivial,Inns.weak (sep_inns (all_e b) k.cap) fun _ _=>trivial,k.ok,(wown_len c).2,a.capn,hm.1,hn⟩
theorem ShR.own{S0:Nat→Prop}{w0:World}{L:List Ent}{s:ShA}{F1:Option Addr→Nat→Nat→List GrA→List Ent}{F2:Option Addr→Nat→Nat→List Int→List Ent}{F3:Ent→List Ent}
  [R1:GO L s.pa (fun g:GrA=>grC g) 2 43 s.pn s.pc s.gs F1][R2:RWO L s.ha 24 .u8 32 s.hn s.hc s.hs F2][R3:RE L (.all (s.gs.map grAll)) F3](hk:∀g∈s.gs,GrK g)(hm:∀g∈s.gs,g.m≤70∧g.ops.length≤70)(hz:s.gs.length≤6∧s.hn≤100)(w:World)(M:Mem S0 w0 L w):ShR (fun _=>True) w s:=by
 obtain⟨A,_,a⟩:=M.get (R1.h s.pa s.pn s.pc s.gs).same;obtain⟨B,_,b⟩:=M.get (R2.h s.ha s.hn s.hc s.hs).same;obtain⟨C,_,c⟩:=M.get (R3.h (.all (s.gs.map grAll))).same;have a:=(gown_e a).1;have b':=wown_row b;have hb:=(wown_len b).2;refine⟨a.row.weaken fun _ _ _=>trivial,fun g hg=>?_,b'.weaken fun _ _ _=>trivial,a.capn,hb,?_,hz.2⟩
 ·obtain⟨S',_,k⟩:=sep_mem (List.mem_map.2 ⟨g,hg,rfl⟩) (all_e c);exact grAll_r k (hk g hg) (hm g hg)
 have:=a.len;omega
theorem ShK.sz{g:S.PG}{n:Nat}{s:ShA}(h:ShK (S.madeS g n) s)(hg:g.m≤70)(hn:n≤4):(∀g∈s.gs,g.m≤70∧g.ops.length≤70)∧(s.gs.length≤6∧s.hn≤100):=by
 have e:s.gs.map GrA.P=(S.madeS g n).ps:=congrArg S.ShV.ps h.V;have e2:s.hn=S.hdN g:=congrArg S.ShV.hn h.V;have hh:S.hdN g≤g.m:=S.numF_le _ _;refine⟨fun q hq=>?_,?_,by omega⟩
 ·have hm:q.P∈(S.madeS g n).ps:=e▸List.mem_map.2 ⟨q,hq,rfl⟩;obtain⟨i,hi,e3⟩:=List.mem_map.1 hm;obtain⟨h1,h2⟩:=S.prt_size g n i;rw[e3]at h1 h2;exact⟨Nat.le_trans h1 hg,Nat.le_trans h2 hg⟩
 have:=congrArg List.length e;rw[List.length_map,S.made_len]at this;omega
theorem shAt{s:ShA}{g:GrA}{i:Nat}(h:s.gs[i]? =some g):s.V.ps.getD i S.PG.nil=g.P:=gsAt h
theorem refWholeOk{S0:Nat→Prop}{w:World}{s:ShA}(H:ShR S0 w s):∀o∈(S.whole s.V.ps).ops,o.ok:=S.whole_ok fun p hp o ho=>by
 obtain⟨g,hg,rfl⟩:=List.mem_map.1 hp;exact(H.gi g hg).opz o ho
theorem ok_len{S0:Nat→Prop}{w:World}{s:ShA}(H:ShR S0 w s)(h:S.okR s.V):1≤s.pn∧s.pn≤4:=by
 have h1:s.V.ps.length=s.pn:=by rw[List.length_map,H.pr.len]
 have h2:=h.1;omega
end W
namespace S
open G
theorem set_mid{α:Type}{D l:List α}{i:Nat}(hD:D.length=i){x y:α}(h:l[i]? =some x):(D++l.drop i).set i y=(D++[y])++l.drop (i+1):=by
 subst hD;have hl:D.length<l.length:=(List.getElem?_eq_some_iff.1 h).1;rw[List.set_append_right _ _ (Nat.le_refl _),Nat.sub_self,List.drop_eq_getElem_cons hl,List.set_cons_zero,List.append_assoc];rfl
theorem setN_getD{l:List Nat}{k i v:Nat}(hk:k<l.length):(l.set k v).getD i 0=if i=k then v else l.getD i 0:=by
 rw[List.getD_eq_getElem?_getD,List.getElem?_set,List.getD_eq_getElem?_getD];by_cases e:k=i
 ·subst e;simp[hk]
 ·rw[if_neg e,if_neg fun h=>e h.symm]
theorem sm_lt{f g:Nat→Nat}{k:Nat}:∀ {n:Nat},(∀i,i<n→f i≤g i)→k<n→f k<g k→sm f n<sm g n
 |n+1,h,hk,hlt=>by
  rw[sm,sm];have h1:=h n (by omega);by_cases e:k=n
  ·subst e;have:=sm_le (n:=k) fun i hi=>h i (by omega);omega
  ·have:=sm_lt (n:=n) (fun i hi=>h i (by omega)) (by omega) hlt;omega
theorem sm_congr{f g:Nat→Nat}:∀ {n:Nat},(∀i,i<n→f i=g i)→sm f n=sm g n
 |0,_=>rfl
 |n+1,h=>by rw[sm,sm,sm_congr fun i hi=>h i (by omega),h n (by omega)]
theorem sm_set{l:List Nat}{k:Nat}(hk:k<l.length):∀n,sm (fun i=>(l.set k (l.getD k 0+1)).getD i 0) n=sm (fun i=>l.getD i 0) n+if k<n then 1 else 0
 |0=>rfl
 |n+1=>by
  rw[sm,sm,sm_set hk n,setN_getD hk];by_cases e:n=k
  ·subst e;rw[if_pos rfl,if_neg (by omega),if_pos (by omega)];omega
  ·rw[if_neg e];split<;>split<;>omega
def resP(n i:Int)(m:Nat)(ids:List Int):Prop:=∀j,j<m→(idAt ids j).getD 0 0 % n=i
instance(n i:Int)(m:Nat)(ids:List Int):Decidable (resP n i m ids):=by unfold resP;infer_instance
theorem castL_rep(n:Nat):castL (List.replicate n 0)=List.replicate n 0:=by simp[castL]
theorem castL_set(l:List Nat)(k v:Nat):castL (l.set k v)=(castL l).set k (v:Int):=by simp[castL,List.map_set]
theorem goodPs_of{ps:List PG}(h1:∀p∈ps,p.ids.length=32*p.m)(h2:∀k,k<ps.length→resP (ps.length:Int) (k:Nat) (ps.getD k PG.nil).m (ps.getD k PG.nil).ids)(h3:∀k,k<ps.length→(ps.getD k PG.nil).ops.length=(ps.getD k PG.nil).m∧Rising (ps.getD k PG.nil).m (ps.getD k PG.nil).ids):goodPs ps:=fun i hi=>by
 obtain⟨a,b⟩:=h3 i hi;have c:=h1 _ (List.getElem_mem hi);rw[←getD_at (d:=PG.nil) hi]at c;exact⟨⟨c,a⟩,b,h2 i hi⟩
structure MgS(ps:List PG)(nx:List Nat)(g:PG):Prop where
 len:nx.length=ps.length
 le:∀k,k<ps.length→nx.getD k 0≤(ps.getD k PG.nil).m
 good:g.good
 rise:Rising g.m g.ids
 has:∀x o,g.has x o↔∃k,k<ps.length∧∃j,j<nx.getD k 0∧idAt (ps.getD k PG.nil).ids j=x∧(ps.getD k PG.nil).ops.getD j OpV.zero=o
 low:∀i,i<g.m→∀k,k<ps.length→∀j,nx.getD k 0≤j→j<(ps.getD k PG.nil).m→cmpS (idAt g.ids i) (idAt (ps.getD k PG.nil).ids j)<0
 tot:g.m=sm (fun k=>nx.getD k 0) ps.length
theorem rep_getD(n i:Nat):(List.replicate n 0).getD i 0=0:=by
 rw[List.getD_eq_getElem?_getD,List.getElem?_replicate];split<;>rfl
theorem mg_zero (ps : List PG) : MgS ps (List.replicate ps.length 0) PG.nil := ⟨List.length_replicate, fun k hk => by rw [rep_getD]; exact Nat.zero_le _, nil_good, nil_rising, fun x o => ⟨fun h => absurd h (nil_has x o), fun ⟨k, hk, j, hj, _⟩ => by rw [rep_getD] at hj; exact absurd hj (Nat.not_lt_zero _)⟩, fun i hi => absurd hi (Nat.not_lt_zero _), by
 rw [sm_congr (g := fun _ => 0) fun i hi => rep_getD _ _, sm_zero]
 rfl⟩
theorem MgS.lt{ps:List PG}{nx:List Nat}{g:PG}(h:MgS ps nx g){k:Nat}(hk:k<ps.length)(hlt:nx.getD k 0<(ps.getD k PG.nil).m):g.m<allN ps:=by
 have h1:=sm_lt (f:=fun k=>nx.getD k 0) (g:=fun j=>(ps.getD j PG.nil).m) h.le hk hlt;rw[sm_all ps _ (Nat.le_refl _),List.take_length]at h1;rw[h.tot];exact h1
def LsP(ps:List PG)(nx:List Nat)(i:Nat)(l:Int):Prop:=
 (l= -1∧∀k,k<i→¬nx.getD k 0<(ps.getD k PG.nil).m)∨∃k:Nat,l=(k:Nat)∧k<i∧nx.getD k 0<(ps.getD k PG.nil).m∧∀k',k'<i→nx.getD k' 0<(ps.getD k' PG.nil).m→¬cmpS (idAt (ps.getD k' PG.nil).ids (nx.getD k' 0)) (idAt (ps.getD k PG.nil).ids (nx.getD k 0))<0
section
variable{ps:List PG}{nx:List Nat}{i:Nat}{l:Int}{g:PG}
theorem ls_zero:LsP ps nx 0 (-1):= .inl ⟨rfl,fun k hk=>absurd hk (Nat.not_lt_zero _)⟩
theorem LsP.skip(h:LsP ps nx i l)(hn:¬nx.getD i 0<(ps.getD i PG.nil).m):LsP ps nx (i+1) l:=by
 rcases h with⟨h1,h2⟩|⟨k,h1,h2,h3,h4⟩
 ·exact .inl ⟨h1,fun k hk=>(Nat.lt_succ_iff_lt_or_eq.1 hk).elim (h2 k) fun e=>e▸hn⟩
 ·refine .inr ⟨k,h1,by omega,h3,fun k' hk' hh=>?_⟩;rcases Nat.lt_or_ge k' i with c|c
  ·exact h4 k' c hh
  ·obtain rfl:k'=i:=by omega
   exact absurd hh hn
theorem LsP.first(h:LsP ps nx i l)(hl:l<0)(hn:nx.getD i 0<(ps.getD i PG.nil).m):LsP ps nx (i+1) (i:Nat):=by
 rcases h with⟨h1,h2⟩|⟨k,h1,_⟩
 ·refine .inr ⟨i,rfl,by omega,hn,fun k' hk' hh=>?_⟩;rcases Nat.lt_or_ge k' i with c|c
  ·exact absurd hh (h2 k' c)
  ·obtain rfl:k'=i:=by omega
   rw[cmpS_self];decide
 ·omega
theorem LsP.some(h:LsP ps nx i l)(hl:¬l<0):∃k:Nat,l=(k:Nat)∧k<i∧nx.getD k 0<(ps.getD k PG.nil).m:=by
 rcases h with⟨h1,_⟩|⟨k,h1,h2,h3,_⟩
 ·omega
 ·exact⟨k,h1,h2,h3⟩
theorem LsP.less{k:Nat}(h:LsP ps nx i (k:Nat))(hn:nx.getD i 0<(ps.getD i PG.nil).m)(hc:cmpS (idAt (ps.getD i PG.nil).ids (nx.getD i 0)) (idAt (ps.getD k PG.nil).ids (nx.getD k 0))<0):LsP ps nx (i+1) (i:Nat):=by
 rcases h with⟨h1,_⟩|⟨q,h1,h2,h3,h4⟩
 ·omega
 ·obtain rfl:k=q:=by omega
  refine .inr ⟨i,rfl,by omega,hn,fun k' hk' hh hcc=>?_⟩;rcases Nat.lt_or_ge k' i with c|c
  ·exact h4 k' c hh (cmpS_trans hcc hc)
  ·obtain rfl:k'=i:=by omega
   rw[cmpS_self]at hcc;exact absurd hcc (by decide)
theorem LsP.more{k:Nat}(h:LsP ps nx i (k:Nat))(hc:¬cmpS (idAt (ps.getD i PG.nil).ids (nx.getD i 0)) (idAt (ps.getD k PG.nil).ids (nx.getD k 0))<0):LsP ps nx (i+1) (k:Nat):=by
 rcases h with⟨h1,_⟩|⟨q,h1,h2,h3,h4⟩
 ·omega
 ·obtain rfl:k=q:=by omega
  refine .inr ⟨k,rfl,by omega,h3,fun k' hk' hh=>?_⟩;rcases Nat.lt_or_ge k' i with c|c
  ·exact h4 k' c hh
  ·obtain rfl:k'=i:=by omega
   exact hc
theorem MgS.step(hg:goodPs ps)(h:MgS ps nx g){k:Nat}(hl:LsP ps nx ps.length (k:Nat)):MgS ps (nx.set k (nx.getD k 0+1)) (g.snoc (idAt (ps.getD k PG.nil).ids (nx.getD k 0)) ((ps.getD k PG.nil).ops.getD (nx.getD k 0) OpV.zero)):=by
 rcases hl with⟨h1,_⟩|⟨q,h1,hk,h3,h4⟩
 ·omega
 ·obtain rfl:k=q:=by omega
  have hkl:k<nx.length:=by rw[h.len];exact hk
  have hx:=idAt_len (ps.getD k PG.nil).ids (nx.getD k 0) _ (hg k hk).1.1 h3;have hlow:∀i,i<g.m→cmpS (idAt g.ids i) (idAt (ps.getD k PG.nil).ids (nx.getD k 0))<0:=fun i hi=>h.low i hi k hk _ (Nat.le_refl _) h3;refine⟨by rw[List.length_set];exact h.len,fun k' hk'=>?_,snoc_good h.good hx,snoc_rising h.good h.rise hx hlow,fun x o=>(snoc_has h.good hx).trans ⟨fun hh=>?_,fun⟨k',hk',j,hj,e1,e2⟩=>?_⟩,fun i hi k' hk' j hj hjm=>?_,?_⟩
  ·rw[setN_getD hkl];split
   ·rename_i e;rw[e];omega
   ·exact h.le k' hk'
  ·rcases hh with hh|⟨e1,e2⟩
   ·obtain⟨k',hk',j,hj,r⟩:=(h.has x o).1 hh;refine⟨k',hk',j,?_,r⟩;rw[setN_getD hkl];split
    ·rename_i e;rw[e]at hj;omega
    ·exact hj
   ·exact⟨k,hk,nx.getD k 0,by rw[setN_getD hkl,if_pos rfl];omega,e1,e2⟩
  ·rw[setN_getD hkl]at hj;split at hj
   ·rename_i e;subst e;rcases Nat.lt_or_ge j (nx.getD k' 0)with c|c
    ·exact .inl ((h.has x o).2 ⟨k',hk',j,c,e1,e2⟩)
    ·obtain rfl:j=nx.getD k' 0:=by omega
     exact .inr ⟨e1,e2⟩
   ·exact .inl ((h.has x o).2 ⟨k',hk',j,hj,e1,e2⟩)
  ·have hi':i<g.m+1:=hi;rw[snoc_at h.good hx i hi'];rw[setN_getD hkl]at hj;split
   ·rename_i hig;refine h.low i hig k' hk' j ?_ hjm;split at hj
    ·rename_i e;rw[e];omega
    ·exact hj
   ·split at hj
    ·rename_i e;subst e;exact rising_lt (hg k' hk').2.1 _ j (by omega) hjm
    ·rename_i e;have hm':nx.getD k' 0<(ps.getD k' PG.nil).m:=by omega
     have h5:=h4 k' hk' hm';have hne:idAt (ps.getD k PG.nil).ids (nx.getD k 0)≠idAt (ps.getD k' PG.nil).ids (nx.getD k' 0):=fun ee=>e (hg.one hk' hk ⟨_,hm',rfl⟩ ⟨_,h3,ee⟩);have h6:cmpS (idAt (ps.getD k PG.nil).ids (nx.getD k 0)) (idAt (ps.getD k' PG.nil).ids (nx.getD k' 0))<0:=by
      rw[cmpS_swap]at h5;have h7:cmpS (idAt (ps.getD k PG.nil).ids (nx.getD k 0)) (idAt (ps.getD k' PG.nil).ids (nx.getD k' 0))≠0:=fun z=>hne ((cmpS_eq _ _).1 z);omega
     rcases Nat.lt_or_ge (nx.getD k' 0) j with c|c
     ·exact cmpS_trans h6 (rising_lt (hg k' hk').2.1 _ j c hjm)
     ·obtain rfl:j=nx.getD k' 0:=by omega
      exact h6
  ·show g.m+1=_;rw[sm_set hkl,if_pos hk,←h.tot]
theorem MgS.done(hg:goodPs ps)(h:MgS ps nx g)(hl:LsP ps nx ps.length l)(hn:l<0):whole ps=g:=by
 rcases hl with⟨_,h2⟩|⟨k,h1,_⟩
 ·refine(whole_mrg hg).eq ⟨h.good,h.rise,fun x o=>(h.has x o).trans ⟨fun⟨k,hk,j,hj,e1,e2⟩=>mem_parts.2 ⟨k,hk,j,by have:=h.le k hk;omega,e1,e2⟩,fun hh=>?_⟩⟩;obtain⟨k,hk,j,hj,e1,e2⟩:=mem_parts.1 hh;exact⟨k,hk,j,by have:=h2 k hk;omega,e1,e2⟩
 ·omega
end
end S
namespace W
open Go.RowKit G
set_option maxRecDepth 20000
set_option maxHeartbeats 8000000
attribute [local irreducible] RS RX RY Code.wp bodyPost J Ent.blk Ent.iown Ent.wrow Ent.wown Ent.gown Ent.all Ent.emp
instance:Ents prog 159:=⟨.mk func159 (by kernel_rfl) rfl⟩
instance:Ents prog 236:=⟨.mk func236 (by kernel_rfl) rfl⟩
instance:Ents prog 210:=⟨.mk func210 (by kernel_rfl) rfl⟩
section
variable{w0:World}{L:List Ent}{P:Program}{ops:Array Oper}{K:List Value→World→Prop}{rest:List (Oper×Kd)}{l l':List Value}{m:Md}{d:Tmp}{ty xt T:TypeId}{pos:String}{af:Array Edge}{x:Operand}{b o:Nat}{cs:List Value}{v:Value}
theorem J.ldOq[U:Sca P xt](hB:Blk w0 b cs T)(hx:ev l x= .pointer (some ⟨b,o,none⟩))(k:J no w0 L (RY no w0 m P ops K rest l'))(hv:cs[o]? =some v:=by rfl)(hl:l.set d v=l':=by dsimp only[List.set]):
  J no w0 L (RY no w0 m P ops K ((⟨some d, .load xt x,ty,pos,af,none⟩, .q)::rest) l):=
 let ⟨_,u1,u2⟩:=U.h
 J.val (fun w M=>D.load hx u1 u2 ((hB.ext M.ext).cell hv)) k hl
end
theorem shWh1(x:List Int)(n i:Int)(bn bi:Nat)(T T2:TypeId)(w:World)(hn:Blk w bn [.int .i64 n] T)(hi:Blk w bi [.int .i64 i] T2)(hx:Arr .u8 32 x)(h0:0<n∧n≤1000):
  Calls prog 236 #[.agg (ints .u8 x).toArray, .pointer (some ⟨bn,0,none⟩), .pointer (some ⟨bi,0,none⟩)] w (Ret w fun v _=>v= .bool (decide (¬x.getD 0 0 % n=i))):=by
 refine J.enter 7 func236 rfl rfl ?_;refine run ?_;refine J.box rfl rfl rfl fun b1=>?_
 refine run ?_;refine J.regionX [(0, .q),(1, .q),(3, .q),(2, .e),(4, .q),(5, .q)] mixed (by kernel_rfl) ?_;refine run ?_;refine J.ldOq hn rfl ?_;refine J.ldOq hi rfl ?_;refine J.callp rfl rfl (fun w' M=>shNumber x n hx h0 w') ?_;refine run ?_;exact J.fin (congrArg _ (by rw[Bool.eq_iff_iff];simp))
theorem idxWh{S1:Nat→Prop}(n i:Int)(a:Option Addr)(m c:Nat)(ids:List Int)(bn bi:Nat)(T T2:TypeId)(w:World)(hn:Blk w bn [.int .i64 n] T)(hi:Blk w bi [.int .i64 i] T2)(D1:WRow .u8 32 S1 w a m ids)(h0:0<n∧n≤1000)(hm:m≤1000):
  Calls prog 230 #[.slice a m c, .func (.func 236) #[] #[.pointer (some ⟨bn,0,none⟩), .pointer (some ⟨bi,0,none⟩)]] w (Gv w (fun r:Int=> .int .i64 r) (fun _=>[]) fun r=>0≤r↔¬S.resP n i m ids):=by
 have hl:=D1.len;refine J.enter 17 func230 rfl rfl ?_;refine run ?_;refine J.loopS (A:=Int) (fun p=>[(8, .int .i64 p)]) [4,5,9,10,11,12,13,14,15,16,17,18] (fun p=>(0≤p∧p≤m)∧∀j,j<p.toNat→(S.idAt ids j).getD 0 0 % n=i) (fun p=>m - p.toNat) 0 (by kernel_rfl) ⟨by omega,fun i hi=>by omega⟩ (fun p j hI=>?_);obtain⟨h1,hI⟩:=hI;refine run ?_;refine J.ifd rfl (fun c1=>?_) (fun c1=>?_)
 ·refine run ?_;refine J.callvp rfl rfl rfl (fun w' M=>shWh1 _ n i bn bi T T2 w' (hn.ext M.ext) (hi.ext M.ext) (D1.elt_arr (by omega)) h0) ?_;refine run ?_;refine J.ifd rfl (fun c2=>?_) (fun c2=>?_)
  ·refine run ?_;exact J.finG p rfl ⟨fun _ h=>c2 (h p.toNat (by omega)),fun _=>by omega⟩ (List.nil_sublist _)
  refine run ?_;refine J.nextS (p+1) ⟨rfl,trivial⟩ (by kernel_rfl) ⟨by omega,fun i hi=>?_⟩ (by omega);rcases Nat.lt_or_ge i p.toNat with e|e
  ·exact hI i e
  obtain rfl:i=p.toNat:=by omega
  exact Classical.not_not.1 c2
 refine run ?_;exact J.finG (-1) rfl ⟨fun h=>by omega,fun h=>absurd (fun i hi=>hI i (by omega)) h⟩ (List.nil_sublist _)
theorem hasWh{S1:Nat→Prop}(n i:Int)(a:Option Addr)(m c:Nat)(ids:List Int)(bn bi:Nat)(T T2:TypeId)(w:World)(hn:Blk w bn [.int .i64 n] T)(hi:Blk w bi [.int .i64 i] T2)(D1:WRow .u8 32 S1 w a m ids)(h0:0<n∧n≤1000)(hm:m≤1000):
  Calls prog 148 #[.slice a m c, .func (.func 236) #[] #[.pointer (some ⟨bn,0,none⟩), .pointer (some ⟨bi,0,none⟩)]] w (Ret w fun v _=>v= .bool (decide (¬S.resP n i m ids))):=by
 refine J.enter 7 func148 rfl rfl ?_;refine run ?_;refine J.call rfl rfl (fun w' M=>idxWh n i a m c ids bn bi T T2 w' (hn.ext M.ext) (hi.ext M.ext) (D1.ext M.ext) h0 hm) fun r hr2=>?_
 refine run ?_;exact J.fin (congrArg _ (decide_eq_decide.2 hr2))
theorem cloneO{S0:Nat→Prop}(a:Option Addr)(n c:Nat)(l:List OpA)(w:World)(D0:GRow opC 11 S0 w a n l)(hn:n≤1000):
  Calls prog 210 #[.slice a n c] w (Gv w (fun q:Option Addr×Nat=> .slice q.1 n q.2) (fun q=>[.gown opC 11 37 q.1 n q.2 l]) fun _=>True):=by
 refine J.enter 7 func210 rfl rfl ?_;refine run ?_;refine J.ifb rfl (fun c1=>?_) (fun c1=>?_)
 ·obtain⟨rfl,rfl⟩:=D0.none (by decide) c1;refine run ?_;refine J.nilG opC 11 37 opC_len ?_;exact J.finG (none,0) rfl trivial (.cons_cons _ (List.nil_sublist _))
 refine run ?_;refine J.b0G opC opC_len rfl fun b=>?_
 refine run ?_;refine J.apG rfl rfl (RG.arg D0) opC_one fun a' c'=>?_
 refine run ?_;refine J.re (.gown opC 11 37 a' (0+n) c' ([]++l)) (.gown opC 11 37 a' n c' l) (fun S w h=>by rw[Nat.zero_add]at h;exact h) ?_;exact J.finG (a',c') (by rw[Nat.zero_add]) trivial (.cons_cons _ (List.nil_sublist _))
structure TwU where
 (ia:Option Addr)(ic:Nat)(oa:Option Addr)(oc b3:Nat)
structure TwA where
 (i:Nat)(D:List OpA)
theorem shTwin{S0:Nat→Prop}(g:GrA)(w:World)(G:GrR S0 w g):
  Calls prog 149 #[.agg (grC g).toArray] w (Gv w (fun q:GrA=> .agg (grC q).toArray) (grE 24 37) (GrP g.m g.ids g.ops)):=by
 have D0:=G.ids;have G0:=G.ops;have hl:=G.len;have hcp:=G.cap;have hzl:=G0.len;refine J.enter 31 func149 rfl rfl ?_;refine run ?_;refine J.box rfl rfl rfl fun b1=>?_
 refine J.alloc rfl fun b2=>?_
 refine run ?_;refine J.joinX (A:=TwU) (fun u=>[(3, .pointer (some ⟨u.b3,0,none⟩))]) [5,6,7,8,9,10,11] (fun u=>[.gown opC 11 37 u.oa g.n u.oc g.zs, .blk u.b3 [.slice u.ia g.m u.ic, .slice u.oa g.n u.oc] 43, .wown 24 .u8 32 u.ia g.m u.ic g.ids, .blk b2 [.slice none 0 0, .slice none 0 0] 43, .blk b1 (grC g) 43]) (fun _=>True) ?_ (fun u j hu=>?_)
 ·refine J.regionW [.blk b1 (grC g) 43] mixed ?_;refine J.wnode [(0, .q),(1, .q),(3, .q),(4, .q)] [2,7] 4 #[true,true,false,true,true,false,false,false,false] (by kernel_rfl) ?_;refine run ?_;refine J.nil ?_;refine J.wbr ?_ ?_
  ·refine J.call rfl rfl (fun w' M=>cloneW g.ia g.m g.ic g.ids w' (D0.ext M.ext) hcp.1 (by omega)) fun q1 hq1=>?_
   refine J.nil ?_;refine J.wnode [] [5,7] 3 #[true,true,true,true,true,false,false,false,false] (by kernel_rfl) ?_;refine run ?_;refine J.nil ?_;refine J.wbr ?_ ?_
   ·refine J.call rfl rfl (fun w' M=>cloneO g.oa g.n g.oc g.zs w' (G0.ext M.ext) (by omega)) fun q2 hq2=>?_
    refine J.nil ?_;refine J.wfin [(6, .q),(7, .e),(8, .e)] (by kernel_rfl) ?_;refine run ?_;refine J.alloc rfl fun b5=>?_
    refine run ?_;refine run ?_;refine J.front (.wown 24 .u8 32 q1.1 g.m q1.2 g.ids) ?_;refine J.front (.blk b5 [.slice q1.1 g.m q1.2, .slice q2.1 g.n q2.2] 43) ?_;refine J.front (.gown opC 11 37 q2.1 g.n q2.2 g.zs) ?_;exact J.cut ⟨q1.1,q1.2,q2.1,q2.2,b5⟩ ⟨rfl,trivial⟩ (by kernel_rfl) trivial
   refine J.wbr ?_ ?_
   ·refine J.alloc rfl fun b5=>?_
    refine J.nil ?_;refine J.wfin [(5, .e),(6, .q),(8, .e)] (by kernel_rfl) ?_;refine run ?_;refine J.call rfl rfl (fun w' M=>cloneO g.oa g.n g.oc g.zs w' (G0.ext M.ext) (by omega)) fun q2 hq2=>?_
    refine run ?_;refine run ?_;refine J.front (.wown 24 .u8 32 q1.1 g.m q1.2 g.ids) ?_;refine J.front (.blk b5 [.slice q1.1 g.m q1.2, .slice q2.1 g.n q2.2] 43) ?_;refine J.front (.gown opC 11 37 q2.1 g.n q2.2 g.zs) ?_;exact J.cut ⟨q1.1,q1.2,q2.1,q2.2,b5⟩ ⟨rfl,trivial⟩ (by kernel_rfl) trivial
   exact J.wbr0
  refine J.wbr ?_ ?_
  ·refine J.alloc rfl fun b5=>?_
   refine J.nil ?_;refine J.wfin [(2, .e),(5, .e),(6, .q),(8, .e)] (by kernel_rfl) ?_;refine run ?_;refine J.call rfl rfl (fun w' M=>cloneW g.ia g.m g.ic g.ids w' (D0.ext M.ext) hcp.1 (by omega)) fun q1 hq1=>?_
   refine run ?_;refine J.call rfl rfl (fun w' M=>cloneO g.oa g.n g.oc g.zs w' (G0.ext M.ext) (by omega)) fun q2 hq2=>?_
   refine run ?_;refine run ?_;refine J.front (.wown 24 .u8 32 q1.1 g.m q1.2 g.ids) ?_;refine J.front (.blk b5 [.slice q1.1 g.m q1.2, .slice q2.1 g.n q2.2] 43) ?_;refine J.front (.gown opC 11 37 q2.1 g.n q2.2 g.zs) ?_;exact J.cut ⟨q1.1,q1.2,q2.1,q2.2,b5⟩ ⟨rfl,trivial⟩ (by kernel_rfl) trivial
  exact J.wbr0
 obtain⟨ia,ic,oa,oc,b3⟩:=u;dsimp only;refine run ?_;refine J.noA ?_;refine J.re (.gown opC 11 37 oa g.n oc g.zs) (.gown opC 11 37 oa g.n oc ([]++g.zs.drop 0)) (fun _ _ h=>h) ?_;refine J.re (.all []) (.all (([]:List OpA).map (opE 24))) (fun _ _ h=>h) ?_;refine J.front (.gown opC 11 37 oa g.n oc ([]++g.zs.drop 0)) ?_;refine J.drop (E:=[.gown opC 11 37 oa g.n oc ([]++g.zs.drop 0), .all (([]:List OpA).map (opE 24)), .blk b3 [.slice ia g.m ic, .slice oa g.n oc] 43, .wown 24 .u8 32 ia g.m ic g.ids, .blk b2 [.slice none 0 0, .slice none 0 0] 43, .blk b1 (grC g) 43]) sb ?_;refine J.loop (A:=TwA) (fun p=>[(15, .int .i64 (p.i:Nat))]) [4,16,17,18,19,20,21,22,23,24,25,26,27,28,29,30] (fun p=>[.gown opC 11 37 oa g.n oc (p.D++g.zs.drop p.i), .all (p.D.map (opE 24)), .blk b3 [.slice ia g.m ic, .slice oa g.n oc] 43, .wown 24 .u8 32 ia g.m ic g.ids, .blk b2 [.slice none 0 0, .slice none 0 0] 43, .blk b1 (grC g) 43]) (fun p=>p.i≤g.n∧p.D.length=p.i∧p.D.map OpA.o=(g.zs.take p.i).map OpA.o∧∀z∈p.D,z.o.n≤z.pc) (fun p=>g.n - p.i) ⟨0,[]⟩ (by kernel_rfl) ⟨Nat.zero_le _,rfl,rfl,fun z hz=>by cases hz⟩ (fun p j hI=>?_);obtain⟨hp,hD,hDo,hDc⟩:=hI;refine run ?_;refine J.ifd rfl (fun c1=>?_) (fun c1=>?_)
 ·obtain⟨z,hzz⟩:=G0.ex (i:=(p.i:Nat)) (by omega);have R:=G.op hzz;rw[Int.toNat_natCast]at hzz;have hz2:(p.D++g.zs.drop p.i)[((p.i:Nat):Int).toNat]? =some z:=by
   rw[Int.toNat_natCast,List.getElem?_append_right (by omega),hD,Nat.sub_self,List.getElem?_drop,Nat.add_zero];exact hzz
  refine run ?_;refine J.regionX [(0, .q),(1, .q),(2, .q),(3, .q),(4, .q),(5, .q),(6, .q),(7, .q),(8, .q),(9, .e),(10, .q),(11, .q),(12, .g)] mixed (by kernel_rfl) ?_;refine run ?_;refine J.call rfl rfl (fun w' M=>cloneW _ _ _ _ w' (R.row.ext M.ext) R.cap (by have:=R.ok.n;omega)) fun q hq=>?_
  refine run ?_;refine J.stGf (f:=opC) (o:=1) (q0:=z) (q:=⟨z.o,q.1,q.2⟩) rfl rfl hz2 rfl ?_;rw[Int.toNat_natCast,S.set_mid hD hzz];refine run ?_;refine J.snocA (p.D.map (opE 24)) (.wown 24 .u8 32 q.1 z.o.n q.2 z.o.ids) ?_;refine J.re (.all (p.D.map (opE 24)++[.wown 24 .u8 32 q.1 z.o.n q.2 z.o.ids])) (.all ((p.D++[(⟨z.o,q.1,q.2⟩:OpA)]).map (opE 24))) (fun _ _ h=>by rw[List.map_append];exact h) ?_;refine J.drop (E:=[.gown opC 11 37 oa g.n oc ((p.D++[(⟨z.o,q.1,q.2⟩:OpA)])++g.zs.drop (p.i+1)), .all ((p.D++[(⟨z.o,q.1,q.2⟩:OpA)]).map (opE 24)), .blk b3 [.slice ia g.m ic, .slice oa g.n oc] 43, .wown 24 .u8 32 ia g.m ic g.ids, .blk b2 [.slice none 0 0, .slice none 0 0] 43, .blk b1 (grC g) 43]) sb ?_
  exact J.next ⟨p.i + 1, p.D ++ [⟨z.o, q.1, q.2⟩]⟩ ⟨rfl, trivial⟩ (by kernel_rfl) ⟨by dsimp only; omega, by simp [hD], by dsimp only; rw [List.map_append, hDo, List.take_add_one, hzz, Option.toList_some, List.map_append]; rfl, fun y hy => by
   rcases List.mem_append.1 hy with h | h
   ·exact hDc y h
   rw [List.mem_singleton] at h; subst h; exact hq⟩ (by dsimp only; omega)
 obtain⟨pi,D⟩:=p;dsimp only at hp hD hDo hDc c1⊢;obtain rfl:pi=g.n:=by omega
 rw[List.drop_of_length_le (by omega),List.append_nil];refine run ?_;exact J.finG ⟨ia,oa,g.m,g.n,ic,oc,g.ids,D⟩ rfl ⟨rfl,rfl,hl.symm,by show D.map OpA.o=_;rw[hDo,List.take_of_length_le (by omega)];rfl,hDc⟩ (by unfold grE;repeat(first|exact List.nil_sublist _|refine List.Sublist.cons_cons _ ?_|refine List.Sublist.cons _ ?_))
instance:Ents prog 149:=⟨.mk func149 (by kernel_rfl) rfl⟩
structure MrA where
 (nx:List Nat)(n:Nat)(a:Option Addr)(c:Nat)(oa:Option Addr)(oc:Nat)(zs:List OpA)(g:S.PG)
structure LsA where
 (i:Nat)(l:Int)
theorem shMerge{S0:Nat→Prop}(s:ShA)(w:World)(H:ShR S0 w s)(hL:ShL s)(hn:s.pn≤4)(hres:∀k,k<s.V.ps.length→S.resP (s.V.ps.length:Int) (k:Nat) (s.V.ps.getD k S.PG.nil).m (s.V.ps.getD k S.PG.nil).ids):
  Calls prog 237 #[.agg (shC s).toArray] w (Gv w (fun q:GrA×Bool=> .tuple #[.agg (grC q.1).toArray, .bool q.2]) (fun q=>grE 24 37 q.1) fun q=>(q.2=true→S.goodPs s.V.ps∧GrP (S.whole s.V.ps).m (S.whole s.V.ps).ids (S.whole s.V.ps).ops q.1)∧(q.2=false→¬S.goodPs s.V.ps)):=by
 have P0:=H.pr;have hl:=P0.len;have hcp:=H.cap;have hml:=H.ml;obtain⟨V,hV⟩:=ex s.V.ps;rw[←hV]at hres⊢;have hV':V=s.gs.map GrA.P:=hV;rw[←hV']at hml;have hVl:V.length=s.pn:=by rw[hV',List.length_map,hl]
 have hat:∀ {i:Nat} {g:GrA},s.gs[i]? =some g→V.getD i S.PG.nil=g.P:=fun h=>by rw[hV'];exact gsAt h
 have hall:S.allN V≤64:=hV▸hL hn;refine J.enter 142 func237 rfl rfl ?_;refine run ?_;refine J.box rfl rfl rfl fun b1=>?_
 refine J.alloc rfl fun b2=>?_
 refine run ?_;refine J.alloc rfl fun b4=>?_
 refine run ?_;refine J.mkI rfl rfl rfl fun b5=>?_
 refine run ?_;refine J.loop (A:=Nat) (fun p=>[(19, .int .i64 (p:Nat))]) [7,8,20,21,22,23,24,25,26,27,28,29,30,31,32,33,34,35,36,37,38,39,40,41,42,43,44,45,46,47,48,49,50,51,52] (fun _=>[.iown 3 .i64 (some ⟨b5,0,none⟩) s.pn s.pn (List.replicate s.pn 0), .blk b4 [.slice none 0 0, .slice none 0 0] 43, .blk b2 [.slice none 0 0, .slice none 0 0] 43, .blk b1 (shC s) 53]) (fun p=>p≤s.pn∧∀k,k<p→(V.getD k S.PG.nil).ops.length=(V.getD k S.PG.nil).m∧S.Rising (V.getD k S.PG.nil).m (V.getD k S.PG.nil).ids) (fun p=>s.pn - p) 0 (by kernel_rfl) ⟨Nat.zero_le _,fun k hk=>absurd hk (Nat.not_lt_zero _)⟩ (fun p j hI=>?_);obtain⟨hp,hI⟩:=hI;refine run ?_;refine J.ifd rfl (fun c1=>?_) (fun c1=>?_)
 ·obtain⟨g,hg⟩:=P0.ex (i:=(p:Nat)) (by omega);have hg':=hg;rw[Int.toNat_natCast]at hg';have G:=H.g hg';have D0:=G.ids;have hcp2:=G.cap;have hgl:=G.len;have hgP:=hat hg';refine run ?_;refine J.alloc rfl fun b7=>?_
  refine run ?_;refine J.ifn rfl (fun c2=>?_) (fun c2=>?_)
  ·refine run ?_;refine J.nilGr 24 37 ?_;refine J.finG (GrA.nil,false) rfl ⟨fun h=>(by cases h),fun _ h=>c2 ?_⟩ (by unfold grE;repeat(first|exact List.nil_sublist _|refine List.Sublist.cons_cons _ ?_|refine List.Sublist.cons _ ?_));have:=(h p (by omega)).1.2;rw[hgP]at this;have h2:g.ops.length=g.m:=this;omega
  refine run ?_;refine J.loopS (A:=Int) (fun q=>[(8, .int .i64 q)]) [31,32,33,34,35,36,37,38,39,40,41,42,43,44,45,46,47,48,49,50,51] (fun q=>1≤q∧(q≤g.m∨q=1)∧S.RisS g.ids q.toNat) (fun q=>(g.m+1 - q).toNat) 1 (by kernel_rfl) ⟨by decide, .inr rfl,fun k hk=>by omega⟩ (fun q j2 hI2=>?_);obtain⟨h1,h2,h3⟩:=hI2;refine run ?_;refine J.ifd rfl (fun c3=>?_) (fun c3=>?_)
  ·refine run ?_;refine J.regionX [(0, .q),(1, .q),(2, .q),(3, .q),(4, .q),(5, .q),(6, .q),(7, .q),(8, .q),(9, .q),(10, .q),(11, .e),(12, .q)] mixed (by kernel_rfl) ?_;refine run ?_;refine J.callp rfl rfl (fun w' M=>dcmp _ _ (D0.elt_arr (by omega)) (D0.elt_arr (by omega)) w') ?_;refine run ?_;have e:q.toNat=(q - 1).toNat+1:=by omega
   refine J.ifd rfl (fun c4=>?_) (fun c4=>?_)
   ·refine run ?_;refine J.nilGr 24 37 ?_;refine J.finG (GrA.nil,false) rfl ⟨fun h=>(by cases h),fun _ h=>?_⟩ (by unfold grE;repeat(first|exact List.nil_sublist _|refine List.Sublist.cons_cons _ ?_|refine List.Sublist.cons _ ?_));have:=(h p (by omega)).2.1;rw[hgP]at this;have h5:=this (q - 1).toNat (by show _<g.m - 1;omega);rw[e]at c4;exact absurd c4 (Int.not_le.2 h5)
   refine run ?_;refine J.nextS (q+1) ⟨rfl,trivial⟩ (by kernel_rfl) ⟨by omega, .inl (by omega),fun k hk=>?_⟩ (by omega);by_cases hk2:k+1<q.toNat
   ·exact h3 k hk2
   obtain rfl:k=(q - 1).toNat:=by omega
   rw[e]at c4;exact Int.not_le.1 c4
  have hr:S.Rising g.m g.ids:=fun i hi=>h3 i (by omega);refine run ?_;refine J.next (p+1) ⟨rfl,trivial⟩ (by kernel_rfl) ⟨by omega,fun k hk=>?_⟩ (by omega);rcases Nat.lt_or_ge k p with c|c
  ·exact hI k c
  obtain rfl:k=p:=by omega
  rw[hgP];exact⟨by show g.ops.length=g.m;omega,hr⟩
 have hgood:S.goodPs V:=S.goodPs_of hml hres fun k hk=>hI k (by omega);have hle:=S.whole_le hml;refine run ?_;refine J.nilWo 24 .u8 32 ?_;refine J.nilG opC 11 37 opC_len ?_;refine J.re (.iown 3 .i64 (some ⟨b5,0,none⟩) s.pn s.pn (List.replicate s.pn 0)) (.iown 3 .i64 (some ⟨b5,0,none⟩) s.pn s.pn (S.castL (List.replicate V.length 0))) (fun _ _ h=>by rw[S.castL_rep,hVl];exact h) ?_;refine J.front (.blk b4 [.slice none 0 0, .slice none 0 0] 43) ?_;refine J.front (.wown 24 .u8 32 none 0 0 []) ?_;refine J.front (.gown opC 11 37 none 0 0 []) ?_;refine J.drop (E:=[.gown opC 11 37 none 0 0 [], .wown 24 .u8 32 none 0 0 [], .blk b4 [.slice none 0 0, .slice none 0 0] 43, .iown 3 .i64 (some ⟨b5,0,none⟩) s.pn s.pn (S.castL (List.replicate V.length 0)), .blk b2 [.slice none 0 0, .slice none 0 0] 43, .blk b1 (shC s) 53]) sb ?_;refine J.loop (A:=MrA) (fun p=>[]) [9,10,11,53,54,55,56,57,58,59,60,61,62,63,64,65,66,67,68,69,70,71,72,73,74,75,76,77,78,79,80,81,82,83,84,85,86,87,88,89,90,91,92,93,94,95,96,97,98,99,100,101,102,103,104,105,106,107,108,109,110,111,112,113,114,115,116,117,118,119,120,121,122,123,124,125,126,127,128,129,130,131,132,133,134,135,136,137,138,139,140,141,142] (fun p=>[.gown opC 11 37 p.oa p.n p.oc p.zs, .wown 24 .u8 32 p.a p.n p.c p.g.ids, .blk b4 [.slice p.a p.n p.c, .slice p.oa p.n p.oc] 43, .iown 3 .i64 (some ⟨b5,0,none⟩) s.pn s.pn (S.castL p.nx), .blk b2 [.slice none 0 0, .slice none 0 0] 43, .blk b1 (shC s) 53]) (fun p=>S.MgS V p.nx p.g∧p.n=p.g.m∧p.zs.map OpA.o=p.g.ops∧∀z∈p.zs,∃g∈s.gs,z∈g.zs) (fun p=>64 - p.g.m) ⟨List.replicate V.length 0,0,none,0,none,0,[],S.PG.nil⟩ (by kernel_rfl) ⟨S.mg_zero V,rfl,rfl,fun z hz=>by cases hz⟩ (fun p j2 hI2=>?_);obtain⟨hm,hpn,hpz,hpm⟩:=hI2;have hnl:=hm.len;refine run ?_
 refine J.loop (A:=LsA) (fun q=>[(9, .int .i64 q.l),(56, .int .i64 (q.i:Nat))]) [10,11,57,58,59,60,61,62,63,64,65,66,67,68,69,70,71,72,73,74,75,76,77,78,79,80,81,82,83,84,85,86,87,88,89,90,91,92,93,94,95,96,97,98] (fun _=>[.gown opC 11 37 p.oa p.n p.oc p.zs, .wown 24 .u8 32 p.a p.n p.c p.g.ids, .blk b4 [.slice p.a p.n p.c, .slice p.oa p.n p.oc] 43, .iown 3 .i64 (some ⟨b5,0,none⟩) s.pn s.pn (S.castL p.nx), .blk b2 [.slice none 0 0, .slice none 0 0] 43, .blk b1 (shC s) 53]) (fun q=>q.i≤s.pn∧S.LsP V p.nx q.i q.l) (fun q=>s.pn - q.i) ⟨0, -1⟩ (by kernel_rfl) ⟨Nat.zero_le _,S.ls_zero⟩ (fun q j3 hI3=>?_);obtain⟨hq,hls⟩:=hI3;refine run ?_;refine J.ifd rfl (fun c2=>?_) (fun c2=>?_)
 ·obtain⟨g,hg⟩:=P0.ex (i:=(q.i:Nat)) (by omega);have hg':=hg;rw[Int.toNat_natCast]at hg';have G:=H.g hg';have D0:=G.ids;have hcp2:=G.cap;have hgP:=hat hg';have hni:((p.nx.getD q.i 0:Nat):Int)=(S.castL p.nx).getD ((q.i:Nat):Int).toNat 0:=by rw[Int.toNat_natCast,S.castL_get]
  refine run ?_;refine J.alloc rfl fun b11=>?_
  refine run ?_;refine J.regionX [(0, .q),(1, .q),(2, .q),(3, .q),(4, .q),(5, .q),(6, .q),(7, .q),(8, .q),(9, .q),(10, .q),(11, .q),(12, .q),(13, .q),(14, .q),(15, .q),(16, .q),(17, .q),(18, .q),(19, .q),(20, .q),(21, .q),(22, .q),(23, .q),(24, .q),(25, .q),(26, .q),(27, .q),(28, .q),(29, .q),(30, .q),(31, .q),(32, .e),(33, .q),(34, .q),(35, .q)] mixed (by kernel_rfl) ?_;refine run ?_;refine J.spd rfl rfl rfl (fun c3=>?_) (fun c3=>?_)
  ·have hlt:p.nx.getD q.i 0<(V.getD q.i S.PG.nil).m:=by rw[hgP];show _<g.m;omega
   refine run ?_;refine J.spd rfl rfl rfl (fun c4=>?_) (fun c4=>?_)
   ·refine run ?_;exact J.next ⟨q.i+1,(q.i:Nat)⟩ ⟨rfl,rfl,trivial⟩ (by kernel_rfl) ⟨by dsimp only;omega,hls.first c4 hlt⟩ (by dsimp only;omega)
   obtain⟨k,hkl,hki,hkm⟩:=hls.some c4;rw[hkl]at hls⊢;obtain⟨h,hh⟩:=P0.ex (i:=(k:Nat)) (by omega);have hh':=hh;rw[Int.toNat_natCast]at hh';have GH:=H.g hh';have D1:=GH.ids;have hhP:=hat hh';have hkm':p.nx.getD k 0<h.m:=by rw[hhP]at hkm;exact hkm
   have hnk:((p.nx.getD k 0:Nat):Int)=(S.castL p.nx).getD ((k:Nat):Int).toNat 0:=by rw[Int.toNat_natCast,S.castL_get]
   refine run ?_;rw[Int.toNat_natCast (p.nx.getD q.i 0),Int.toNat_natCast (p.nx.getD k 0)];refine J.callp rfl rfl (fun w' M=>dcmp _ _ (D0.elt_arr (by omega)) (D1.elt_arr (by omega)) w') ?_;refine run ?_;have ec:∀ {z:Prop},(S.cmpS (elt 32 g.ids (p.nx.getD q.i 0)) (elt 32 h.ids (p.nx.getD k 0))<0→z)→S.cmpS (S.idAt (V.getD q.i S.PG.nil).ids (p.nx.getD q.i 0)) (S.idAt (V.getD k S.PG.nil).ids (p.nx.getD k 0))<0→z:=fun f=>by rw[hgP,hhP];exact f
   refine J.ifd rfl (fun c5=>?_) (fun c5=>?_)
   ·refine run ?_;exact J.next ⟨q.i+1,(q.i:Nat)⟩ ⟨rfl,rfl,trivial⟩ (by kernel_rfl) ⟨by dsimp only;omega,hls.less hlt (by rw[hgP,hhP];exact c5)⟩ (by dsimp only;omega)
   refine run ?_;exact J.next ⟨q.i+1,(k:Nat)⟩ ⟨rfl,rfl,trivial⟩ (by kernel_rfl) ⟨by dsimp only;omega,hls.more (by rw[hgP,hhP];exact c5)⟩ (by dsimp only;omega)
  refine run ?_;exact J.next ⟨q.i+1,q.l⟩ ⟨rfl,rfl,trivial⟩ (by kernel_rfl) ⟨by dsimp only;omega,hls.skip (by rw[hgP];show ¬_<g.m;omega)⟩ (by dsimp only;omega)
 obtain⟨qi,ql⟩:=q;dsimp only at hq hls c2⊢;obtain rfl:qi=s.pn:=by omega
 rw[←hVl]at hls;obtain⟨nx,n,a,c,oa,oc,zs,gg⟩:=p;dsimp only at hm hpn hpz hpm hnl hls⊢;refine J.fact (.wown 24 .u8 32 a n c gg.ids) (fun _ _ h=>(wown_len h).2) fun hc2=>?_
 refine J.fact (.gown opC 11 37 oa n oc zs) (fun _ _ h=>(gown_e h).1.capn) fun hc3=>?_
 refine run ?_;refine J.ifd rfl (fun c3=>?_) (fun c3=>?_)
 ·have hw:=hm.done hgood hls c3;have hn70:n≤70:=by rw[hpn,←hw];omega
  refine run ?_;refine J.call rfl rfl (fun w' M=>(RW.own' (a:=a) w' M).elim fun _ k0=>(RG.own' (a:=oa) w' M).elim fun _ k1=>shTwin ⟨a,oa,n,n,c,oc,gg.ids,zs⟩ w' (S0:=fun _=>True) ⟨k0.weaken fun _ _ _=>trivial,k1.weaken fun _ _ _=>trivial,Inns.weak (fun x hx=>(hpm x hx).elim fun g hg=>((H.gi g hg.1).ext M.ext).inn x hg.2) fun _ _=>trivial,fun z hz=>(hpm z hz).elim fun g hg=>(H.gi g hg.1).ok z hg.2,hc2,hc3,hn70,hn70⟩) fun q hq=>?_
  dsimp only[grE,List.cons_append,List.nil_append];refine run ?_;refine J.finG (q,true) rfl ⟨fun _=>⟨hgood,?_⟩,fun h=>by cases h⟩ sb;have eo:GrA.ops ⟨a,oa,n,n,c,oc,gg.ids,zs⟩=gg.ops:=hpz;rw[eo]at hq;rw[hw];exact⟨hq.m.trans hpn,hq.ids,hq.n,hq.ops,hq.cap⟩
 obtain⟨k,rfl,hkl,hkm⟩:=hls.some c3;have hstep:=hm.step hgood hls;have hlt:=hm.lt hkl hkm;obtain⟨h,hh⟩:=P0.ex (i:=(k:Nat)) (by omega);have hh':=hh;rw[Int.toNat_natCast]at hh';have GH:=H.g hh';have D1:=GH.ids;have O1:=GH.ops;have hcp2:=GH.cap;have hhP:=hat hh';have hkm':nx.getD k 0<h.m:=by rw[hhP]at hkm;exact hkm
 have hhn:h.n=h.m:=by
  have:=(hgood k hkl).1.2;rw[hhP]at this;have h2:h.ops.length=h.m:=this;have h3:=GH.len;omega
 have hA:Arr .u8 32 (elt 32 h.ids (nx.getD k 0)):=D1.elt_arr (by omega);obtain⟨z,hz⟩:=O1.ex (i:=(nx.getD k 0:Nat)) (by omega);have hz':=hz;rw[Int.toNat_natCast]at hz';have hzo:=GrA.opAt hz';have hnk:((nx.getD k 0:Nat):Int)=(S.castL nx).getD ((k:Nat):Int).toNat 0:=by rw[Int.toNat_natCast,S.castL_get]
 have ecl:(S.castL nx).set ((k:Nat):Int).toNat ((nx.getD k 0:Nat)+1)=S.castL (nx.set k (nx.getD k 0+1)):=by rw[Int.toNat_natCast,S.castL_set];rfl
 have hX:S.idAt (V.getD k S.PG.nil).ids (nx.getD k 0)=elt 32 h.ids (nx.getD k 0):=by rw[hhP];rfl
 have hO:(V.getD k S.PG.nil).ops.getD (nx.getD k 0) S.OpV.zero=z.o:=by rw[hhP];exact hzo
 rw[hX,hO]at hstep;clear hX hO;refine run ?_;refine J.regionG [.blk b4 [.slice a n c, .slice oa n oc] 43, .iown 3 .i64 (some ⟨b5,0,none⟩) s.pn s.pn (S.castL nx), .blk b1 (shC s) 53] [33,35] [34] mixed ?_;refine J.gnode [(0, .q),(1, .q),(2, .q),(3, .q),(4, .q),(5, .q),(6, .q),(7, .q),(8, .q),(9, .q),(10, .q),(11, .q),(12, .q),(13, .q),(16, .q),(17, .q),(18, .q),(19, .q),(20, .q),(21, .q),(22, .q),(23, .q),(24, .q),(25, .q),(26, .q),(27, .q),(28, .q),(29, .q)] [14,30] 7 #[true,true,true,true,true,true,true,true,true,true,true,true,true,true,false,false,true,true,true,true,true,true,true,true,true,true,true,true,true,true,false,false,false,false,false,false] (by kernel_rfl) ?_;refine run ?_;refine J.nil ?_;refine J.gbr ?_ ?_
 ·rw[Int.toNat_natCast (nx.getD k 0)];refine J.b1W rfl rfl hA fun bb=>?_
  refine J.nil ?_;refine J.gnode [] [15,30] 6 #[true,true,true,true,true,true,true,true,true,true,true,true,true,true,true,false,true,true,true,true,true,true,true,true,true,true,true,true,true,true,false,false,false,false,false,false] (by kernel_rfl) ?_;refine run ?_;refine J.nil ?_;refine J.gbr ?_ ?_
  ·refine J.apW rfl rfl RW.own' fun a' c'=>?_
   refine J.nil ?_;refine J.gfin [(32, .q),(30, .e),(31, .e),(33, .g),(34, .c),(35, .g)] (by kernel_rfl) ?_;refine run ?_;refine J.b1G opC z opC_len rfl rfl rfl fun bc=>?_
   refine run ?_;refine J.apG rfl rfl RG.own' opC_one fun oa' oc'=>?_
   refine J.sw rfl ?_;refine run ?_;refine J.front (.blk b4 [.slice a' (n+1) c', .slice oa' (n+1) oc'] 43) ?_;refine J.front (.wown 24 .u8 32 a' (n+1) c' (gg.ids++elt 32 h.ids (nx.getD k 0))) ?_;refine J.front (.gown opC 11 37 oa' (n+1) oc' (zs++[z])) ?_;refine run ?_;rw[ecl];refine J.drop (E:=[.gown opC 11 37 oa' (n+1) oc' (zs++[z]), .wown 24 .u8 32 a' (n+1) c' (gg.ids++elt 32 h.ids (nx.getD k 0)), .blk b4 [.slice a' (n+1) c', .slice oa' (n+1) oc'] 43, .iown 3 .i64 (some ⟨b5,0,none⟩) s.pn s.pn (S.castL (nx.set k (nx.getD k 0+1))), .blk b2 [.slice none 0 0, .slice none 0 0] 43, .blk b1 (shC s) 53]) sb ?_
   exact J.next ⟨nx.set k (nx.getD k 0 + 1), n + 1, a', c', oa', oc', zs ++ [z], gg.snoc (elt 32 h.ids (nx.getD k 0)) z.o⟩ trivial (by kernel_rfl) ⟨hstep, congrArg (· + 1) hpn, by dsimp only; rw [List.map_append, hpz]; rfl, fun y hy => by
    rcases List.mem_append.1 hy with hh2 | hh2
    ·exact hpm y hh2
    rw [List.mem_singleton] at hh2; subst hh2; exact ⟨h, List.mem_of_getElem? hh', List.mem_of_getElem? hz'⟩⟩ (by show 64 - (gg.m + 1) < 64 - gg.m; omega)
  refine J.gbr ?_ ?_
  ·refine J.b1G opC z opC_len rfl rfl rfl fun bc=>?_
   refine J.nil ?_;refine J.gfin [(15, .e),(32, .q),(31, .e),(33, .g),(34, .c),(35, .g)] (by kernel_rfl) ?_;refine run ?_;refine J.apW rfl rfl RW.own' fun a' c'=>?_
   refine run ?_;refine J.apG rfl rfl RG.own' opC_one fun oa' oc'=>?_
   refine J.sw rfl ?_;refine run ?_;refine J.front (.blk b4 [.slice a' (n+1) c', .slice oa' (n+1) oc'] 43) ?_;refine J.front (.wown 24 .u8 32 a' (n+1) c' (gg.ids++elt 32 h.ids (nx.getD k 0))) ?_;refine J.front (.gown opC 11 37 oa' (n+1) oc' (zs++[z])) ?_;refine run ?_;rw[ecl];refine J.drop (E:=[.gown opC 11 37 oa' (n+1) oc' (zs++[z]), .wown 24 .u8 32 a' (n+1) c' (gg.ids++elt 32 h.ids (nx.getD k 0)), .blk b4 [.slice a' (n+1) c', .slice oa' (n+1) oc'] 43, .iown 3 .i64 (some ⟨b5,0,none⟩) s.pn s.pn (S.castL (nx.set k (nx.getD k 0+1))), .blk b2 [.slice none 0 0, .slice none 0 0] 43, .blk b1 (shC s) 53]) sb ?_
   exact J.next ⟨nx.set k (nx.getD k 0 + 1), n + 1, a', c', oa', oc', zs ++ [z], gg.snoc (elt 32 h.ids (nx.getD k 0)) z.o⟩ trivial (by kernel_rfl) ⟨hstep, congrArg (· + 1) hpn, by dsimp only; rw [List.map_append, hpz]; rfl, fun y hy => by
    rcases List.mem_append.1 hy with hh2 | hh2
    ·exact hpm y hh2
    rw [List.mem_singleton] at hh2; subst hh2; exact ⟨h, List.mem_of_getElem? hh', List.mem_of_getElem? hz'⟩⟩ (by show 64 - (gg.m + 1) < 64 - gg.m; omega)
  exact J.gbr0
 refine J.gbr ?_ ?_
 ·refine J.b1G opC z opC_len rfl rfl rfl fun bc=>?_
  refine J.nil ?_;refine J.gfin [(14, .e),(15, .e),(32, .q),(31, .e),(33, .g),(34, .c),(35, .g)] (by kernel_rfl) ?_;refine run ?_;rw[Int.toNat_natCast (nx.getD k 0)];refine J.b1W rfl rfl hA fun bb=>?_
  refine run ?_;refine J.apW rfl rfl RW.own' fun a' c'=>?_
  refine run ?_;refine J.apG rfl rfl RG.own' opC_one fun oa' oc'=>?_
  refine J.sw rfl ?_;refine run ?_;refine J.front (.blk b4 [.slice a' (n+1) c', .slice oa' (n+1) oc'] 43) ?_;refine J.front (.wown 24 .u8 32 a' (n+1) c' (gg.ids++elt 32 h.ids (nx.getD k 0))) ?_;refine J.front (.gown opC 11 37 oa' (n+1) oc' (zs++[z])) ?_;refine run ?_;rw[ecl];refine J.drop (E:=[.gown opC 11 37 oa' (n+1) oc' (zs++[z]), .wown 24 .u8 32 a' (n+1) c' (gg.ids++elt 32 h.ids (nx.getD k 0)), .blk b4 [.slice a' (n+1) c', .slice oa' (n+1) oc'] 43, .iown 3 .i64 (some ⟨b5,0,none⟩) s.pn s.pn (S.castL (nx.set k (nx.getD k 0+1))), .blk b2 [.slice none 0 0, .slice none 0 0] 43, .blk b1 (shC s) 53]) sb ?_
  exact J.next ⟨nx.set k (nx.getD k 0 + 1), n + 1, a', c', oa', oc', zs ++ [z], gg.snoc (elt 32 h.ids (nx.getD k 0)) z.o⟩ trivial (by kernel_rfl) ⟨hstep, congrArg (· + 1) hpn, by dsimp only; rw [List.map_append, hpz]; rfl, fun y hy => by
   rcases List.mem_append.1 hy with hh2 | hh2
   ·exact hpm y hh2
   rw [List.mem_singleton] at hh2; subst hh2; exact ⟨h, List.mem_of_getElem? hh', List.mem_of_getElem? hz'⟩⟩ (by show 64 - (gg.m + 1) < 64 - gg.m; omega)
 exact J.gbr0
end W
namespace S
open G
def resN(ps:List PG)(x:List Int):Nat:=(x.getD 0 0 % (ps.length:Int)).toNat
section
variable{ps:List PG}{x:List Int}
theorem res_lt(hn:0<ps.length):((resN ps x:Nat):Int)=x.getD 0 0 % (ps.length:Int)∧resN ps x<ps.length:=by
 have h1:=Int.emod_nonneg (x.getD 0 0) (show(ps.length:Int)≠0 by omega);have h2:=Int.emod_lt_of_pos (x.getD 0 0) (show(0:Int)<ps.length by omega);unfold resN;omega
theorem in_part(hg:goodPs ps)(hn:0<ps.length):inS (whole ps).m (whole ps).ids x↔inS (ps.getD (resN ps x) PG.nil).m (ps.getD (resN ps x) PG.nil).ids x:=by
 obtain⟨r1,r2⟩:=res_lt (x:=x) hn;have hm:=whole_mrg hg;constructor
 ·intro h;obtain⟨o,ho⟩:=has_in.1 h;obtain⟨j,hj,i,hi,e1,e2⟩:=mem_parts.1 ((hm.has x o).1 ho);have:=(hg j hj).2.2 i hi;rw[e1]at this;have:j=resN ps x:=by omega
  subst this;exact⟨i,hi,e1⟩
 ·intro h;obtain⟨o,ho⟩:=has_in.1 h;exact has_in.2 ⟨o,(hm.has x o).2 (mem_parts.2 ⟨_,r2,ho⟩)⟩
theorem op_part(hg:goodPs ps)(hn:0<ps.length)(h:inS (ps.getD (resN ps x) PG.nil).m (ps.getD (resN ps x) PG.nil).ids x):
  (whole ps).ops.getD (ixS (whole ps).m (whole ps).ids x) OpV.zero=(ps.getD (resN ps x) PG.nil).ops.getD (ixS (ps.getD (resN ps x) PG.nil).m (ps.getD (resN ps x) PG.nil).ids x) OpV.zero:=by
 obtain⟨r1,r2⟩:=res_lt (x:=x) hn;have hm:=whole_mrg hg;have h2:=(in_part hg hn).2 h;have a:(ps.getD (resN ps x) PG.nil).has x ((ps.getD (resN ps x) PG.nil).ops.getD (ixS (ps.getD (resN ps x) PG.nil).m (ps.getD (resN ps x) PG.nil).ids x) OpV.zero):=⟨_,(ix_in h).1,(ix_in h).2,rfl⟩
 exact has_fun hm.rise ⟨_,(ix_in h2).1,(ix_in h2).2,rfl⟩ ((hm.has _ _).2 (mem_parts.2 ⟨_,r2,a⟩))
end
end S
namespace W
open Go.RowKit G
set_option maxRecDepth 20000
set_option maxHeartbeats 8000000
attribute [local irreducible] RS RX RY Code.wp bodyPost J Ent.blk Ent.iown Ent.wrow Ent.wown Ent.gown Ent.all Ent.emp
instance:Ents prog 148:=⟨.mk func148 (by kernel_rfl) rfl⟩
instance:Ents prog 237:=⟨.mk func237 (by kernel_rfl) rfl⟩
instance:Ents prog 161:=⟨.mk func161 (by kernel_rfl) rfl⟩
instance:Ents prog 238:=⟨.mk func238 (by kernel_rfl) rfl⟩
theorem shWhole{S0:Nat→Prop}(s:ShA)(TK:TypeId)(w:World)(K0:Kst w TK)(H:ShR S0 w s)(hL:ShL s):
  Calls prog 158 #[.agg (shC s).toArray] w (Gv w (fun q:GrA=> .tuple #[.agg (grC q).toArray, .int .i64 (S.chkH s.V)]) (grE 24 37) (GrP (S.alP s.V).m (S.alP s.V).ids (S.alP s.V).ops)):=by
 have P0:=H.pr;have hl:=P0.len;have hcp:=H.cap;have hll:s.V.ps.length=s.pn:=by rw[List.length_map,H.pr.len]
 have hoi:=S.ok_iff (v:=s.V) H.ml;refine J.enter 71 func158 rfl rfl ?_;refine run ?_;refine J.box rfl rfl rfl fun b1=>?_
 refine J.alloc rfl fun b2=>?_
 refine run ?_;refine J.alloc rfl fun b4=>?_
 refine run ?_;refine J.spd rfl rfl rfl (fun c1=>?_) (fun c1=>?_)
 ·have k1:¬S.okR s.V:=fun h=>by have:=h.1.1;omega
  rw[S.chkH_8 k1,S.al_8 k1];refine run ?_;refine J.nilGr 24 37 ?_;exact J.finG GrA.nil rfl GrP.nil sb
 refine run ?_;refine J.ifd rfl (fun c2=>?_) (fun c2=>?_)
 ·have k1:¬S.okR s.V:=fun h=>by have:=h.1.2;omega
  rw[S.chkH_8 k1,S.al_8 k1];refine run ?_;refine J.nilGr 24 37 ?_;exact J.finG GrA.nil rfl GrP.nil sb
 refine run ?_;refine J.loop (A:=Nat) (fun p=>[(24, .int .i64 (p:Nat))]) [5,6,25,26,27,28,29,30,31,32,33,34] (fun _=>[.blk b4 [.int .i64 (s.pn:Nat)] 3, .blk b2 [.slice none 0 0, .slice none 0 0] 43, .blk b1 (shC s) 53]) (fun p=>p≤s.pn∧∀k,k<p→S.resP (s.pn:Int) (k:Nat) (s.V.ps.getD k S.PG.nil).m (s.V.ps.getD k S.PG.nil).ids) (fun p=>s.pn - p) 0 (by kernel_rfl) ⟨Nat.zero_le _,fun k hk=>absurd hk (Nat.not_lt_zero _)⟩ (fun p j hI=>?_);obtain⟨hp,hI⟩:=hI;refine run ?_;refine J.ifd rfl (fun c3=>?_) (fun c3=>?_)
 ·obtain⟨g,hg⟩:=P0.ex (i:=(p:Nat)) (by omega);have hg':=hg;rw[Int.toNat_natCast]at hg';have G:=H.g hg';have hcp2:=G.cap;have hgP:=shAt hg';refine run ?_;refine J.alloc rfl fun b5=>?_
  refine J.alloc rfl fun b6=>?_
  refine run ?_;refine J.fn rfl rfl rfl ?_;refine J.callp rfl rfl (fun w' M=>hasWh (s.pn:Int) (p:Nat) g.ia g.m g.ic g.ids b4 b5 _ _ w' (blkC b4 M) (blkC b5 M) (G.ids.ext M.ext) ⟨by omega,by omega⟩ (by omega)) ?_;refine run ?_;refine J.ifd rfl (fun c4=>?_) (fun c4=>?_)
  ·have k1 : ¬ S.okR s.V := fun h => c4 (by
    have := ((hoi.1 h).2.1 p (by omega)).2.2
    rw [hgP, hll] at this
    exact this)
   rw[S.chkH_8 k1,S.al_8 k1];refine run ?_;refine J.nilGr 24 37 ?_;exact J.finG GrA.nil rfl GrP.nil sb
  refine run ?_;refine J.next (p+1) ⟨rfl,trivial⟩ (by kernel_rfl) ⟨by omega,fun k hk=>?_⟩ (by omega);rcases Nat.lt_or_ge k p with c|c
  ·exact hI k c
  obtain rfl:k=p:=by omega
  rw[hgP];exact Decidable.not_not.1 c4
 have hres:∀k,k<s.V.ps.length→S.resP (s.V.ps.length:Int) (k:Nat) (s.V.ps.getD k S.PG.nil).m (s.V.ps.getD k S.PG.nil).ids:=fun k hk=>by
  rw[hll];exact hI k (by omega)
 refine run ?_;refine J.call rfl rfl (fun w' M=>shMerge s w' (H.ext M.ext) hL (by omega) hres) fun q hq=>?_
 obtain⟨q,ok⟩:=q;dsimp only[grE,List.cons_append,List.nil_append]at hq⊢;refine run ?_;refine J.alloc rfl fun b7=>?_
 refine run ?_;cases ok with
 |false=>
  have k1:¬S.okR s.V:=fun h=>hq.2 rfl (hoi.1 h).2.1;rw[S.chkH_8 k1,S.al_8 k1];refine run ?_;refine J.nilGr 24 37 ?_;exact J.finG GrA.nil rfl GrP.nil sb
 |true=>
 obtain⟨hgp,hP⟩:=hq.1 rfl;have hle:=H.le hL (by omega);have hwg:=S.whole_good (ps:=s.V.ps) H.ml;have hok:=refWholeOk H;have hqs:q.m≤70∧q.n≤70:=⟨by rw[hP.m];exact Nat.le_trans hle (by decide),by rw[hP.n,hwg.2];exact Nat.le_trans hle (by decide)⟩
 have hqP:q.P=S.whole s.V.ps:=by rw[hP.P]
 refine run ?_;refine J.callp rfl rfl (fun w' M=>dagCheck q _ w' (K0.ext M.ext) (GrR.own (hP.ok hok) hP.cap hqs w' M)) ?_;refine run ?_;refine J.spn rfl rfl rfl (fun c5=>?_) (fun c5=>?_)
 ·have k1:¬S.okR s.V:=fun h=>c5 (by have:=h.2.1;unfold S.chkP at this;rw[←hqP]at this;exact this);rw[S.chkH_8 k1,S.al_8 k1];refine run ?_;refine J.nilGr 24 37 ?_;exact J.finG GrA.nil rfl GrP.nil sb
 refine run ?_;refine J.ifn rfl (fun c6=>?_) (fun c6=>?_)
 ·have k1:¬S.okR s.V:=fun h=>c6 (by have:=(hoi.1 h).2.2.2.1;rw[hP.m];exact this);rw[S.chkH_8 k1,S.al_8 k1];refine run ?_;refine J.nilGr 24 37 ?_;exact J.finG GrA.nil rfl GrP.nil sb
 have hhn:S.hdN q.P≤q.m:=S.numF_le _ _;refine run ?_;refine J.call rfl rfl (fun w' M=>ancHeads q _ w' (K0.ext M.ext) (GrR.own (hP.ok hok) hP.cap hqs w' M) c5) fun q2 hq2=>?_
 obtain⟨ha,hn,hc⟩:=q2;dsimp only at hq2⊢;refine run ?_;refine J.callp rfl rfl (fun w' M=>(RW.own' (a:=ha) w' M).elim fun _ k0=>eqIDs _ _ _ _ _ _ _ _ w' k0 (H.hr.ext M.ext) (by omega) (by omega)) ?_;refine run ?_;refine J.ifnot rfl (fun c7=>?_) (fun c7=>?_)
 ·have k1:¬S.okR s.V:=fun h=>of_decide_eq_false c7 (by have:=(hoi.1 h).2.2.2.2;rw[hqP];exact this.symm);rw[S.chkH_8 k1,S.al_8 k1];refine run ?_;refine J.nilGr 24 37 ?_;exact J.finG GrA.nil rfl GrP.nil sb
 have k1:S.okR s.V:=hoi.2 ⟨⟨by omega,by omega⟩,hgp,by unfold S.chkP;rw[←hqP];exact c5,by rw[←hP.m];exact c6,by have:=of_decide_eq_true c7;rw[←hqP];exact this.symm⟩;rw[S.chkH_0 k1,S.al_0 k1];refine run ?_;exact J.finG q rfl hP sb
end W
namespace W
open Go.RowKit G
theorem nil_all(TI TO:TypeId)(w:World):Sep (grE TI TO ⟨none,none,0,0,0,0,[],[]⟩) no w:=
 ⟨no,no,fun _ h=>h,fun _ h=>h,fun _ h=>h.elim,⟨GOwn.nil 0 w TO opC_len,fun b hb=>by cases hb⟩,no,no,fun _ h=>h,fun _ h=>h,fun _ h=>h.elim,trivial,no,no,fun _ h=>h,fun _ h=>h,fun _ h=>h.elim,⟨WOwn.nil 0 w TI .u8 32,fun b hb=>by cases hb⟩,trivial⟩
theorem nil_ent(TI TO:TypeId)(w:World):(Ent.all (grE TI TO ⟨none,none,0,0,0,0,[],[]⟩)).ok no w:=nil_all TI TO w
theorem nil_rep(TI TO:TypeId)(w:World):∀n:Nat,Sep (List.replicate n (Ent.all (grE TI TO ⟨none,none,0,0,0,0,[],[]⟩))) no w
 |0=>trivial
 |n+1=>⟨no,no,fun _ h=>h,fun _ h=>h,fun _ h=>h.elim,nil_ent TI TO w,nil_rep TI TO w n⟩
end W
namespace W
open Go.RowKit G
set_option maxRecDepth 20000
set_option maxHeartbeats 8000000
attribute [local irreducible] RS RX RY Code.wp bodyPost J Ent.blk Ent.iown Ent.wrow Ent.wown Ent.gown Ent.all Ent.emp
instance:Ents prog 158:=⟨.mk func158 (by kernel_rfl) rfl⟩
instance:Ents prog 68:=⟨.mk func68 (by kernel_rfl) rfl⟩
instance:Ents prog 146:=⟨.mk func146 (by kernel_rfl) rfl⟩
theorem shCheck{S0:Nat→Prop}(s:ShA)(TK:TypeId)(w:World)(K0:Kst w TK)(H:ShR S0 w s)(hL:ShL s):
  Calls prog 68 #[.agg (shC s).toArray] w (Ret w fun v _=>v= .int .i64 (S.chkH s.V)):=by
 refine J.enter 10 func68 rfl rfl ?_;refine run ?_;refine J.box rfl rfl rfl fun b1=>?_
 refine run ?_;refine J.call rfl rfl (fun w' M=>shWhole s _ w' (K0.ext M.ext) (H.ext M.ext) hL) fun q hq=>?_
 dsimp only[grE,List.cons_append,List.nil_append];refine run ?_;refine J.alloc rfl fun b3=>?_
 refine run ?_;exact J.fin rfl
theorem shNum{S0:Nat→Prop}(s:ShA)(x:List Int)(TK:TypeId)(w:World)(K0:Kst w TK)(H:ShR S0 w s)(hL:ShL s)(hx:Arr .u8 32 x):
  Calls prog 72 #[.agg (shC s).toArray, .agg (ints .u8 x).toArray] w (Ret w fun v _=>v= .tuple #[.int .i64 (S.nbO s.V x), .int .i64 (S.chkH s.V)]):=by
 have hcp:=H.cap;have hll:s.V.ps.length=s.pn:=by rw[List.length_map,H.pr.len]
 refine J.enter 15 func72 rfl rfl ?_;refine run ?_;refine J.box rfl rfl rfl fun b1=>?_
 refine run ?_;refine J.box rfl rfl rfl fun b2=>?_
 refine run ?_;refine J.callp rfl rfl (fun w' M=>shCheck s _ w' (K0.ext M.ext) (H.ext M.ext) hL) ?_;refine run ?_;refine J.ifn rfl (fun c1=>?_) (fun c1=>?_)
 ·obtain⟨k1,k2⟩:=S.chkH_ne c1;refine run ?_;exact J.fin (tup2 (congrArg _ (S.nb_8 k1).symm) rfl)
 have hok:=S.chkH_iff.1 c1;obtain⟨n1,n4⟩:=ok_len H hok;refine run ?_;refine J.callp rfl rfl (fun w' M=>shNumber x (s.pn:Nat) hx ⟨by omega,by omega⟩ w') ?_;refine run ?_;exact J.fin (tup2 (congrArg _ (by rw[S.nb_0 hok,hll])) (congrArg _ c1.symm))
theorem shFind{S0:Nat→Prop}(s:ShA)(x:List Int)(g:GrA)(w:World)(H:ShR S0 w s)(hx:Arr .u8 32 x)(hgp:S.goodPs s.V.ps)(h1:1≤s.pn)(hg:s.gs[S.resN s.V.ps x]? =some g):
  Calls prog 146 #[.agg (shC s).toArray, .agg (ints .u8 x).toArray] w (Ret w fun v _=>v= .tuple #[.int .i64 (S.resN s.V.ps x:Nat), .int .i64 (S.spotS g.m g.ids x:Nat), .bool (decide (S.inS g.m g.ids x))]):=by
 have P0:=H.pr;have hcp:=H.cap;have hll:s.V.ps.length=s.pn:=by rw[List.length_map,H.pr.len]
 obtain⟨r1,r2⟩:=S.res_lt (ps:=s.V.ps) (x:=x) (by omega);have G:=H.g hg;have hgP:=shAt hg;have hr:S.Rising g.m g.ids:=by have:=(hgp _ r2).2.1;rw[hgP]at this;exact this
 obtain⟨r,hr0⟩:=ex (S.resN s.V.ps x);rw[←hr0]at r1 r2 hg⊢;have hg2:s.gs[((r:Nat):Int).toNat]? =some g:=by rw[Int.toNat_natCast];exact hg
 have hcp2:=G.cap;refine J.enter 24 func146 rfl rfl ?_;refine run ?_;refine J.box rfl rfl rfl fun b1=>?_
 refine run ?_;refine J.box rfl rfl rfl fun b2=>?_
 refine run ?_;refine J.callp rfl rfl (fun w' M=>shNumber x (s.pn:Nat) hx ⟨by omega,by omega⟩ w') ?_;rw[←hll,←r1];refine run ?_;refine J.regionX [(0, .q),(1, .q),(2, .q),(3, .q),(4, .q),(5, .q),(6, .q),(7, .e),(8, .q),(9, .q),(10, .q),(11, .q),(12, .q)] mixed (by kernel_rfl) ?_;refine run ?_;refine J.callp rfl rfl (fun w' M=>bsID _ _ _ _ _ _ (G.ids.ext M.ext) hx hr (by omega)) ?_;refine run ?_;exact J.fin rfl
theorem shHas{S0:Nat→Prop}(s:ShA)(x:List Int)(TK:TypeId)(w:World)(K0:Kst w TK)(H:ShR S0 w s)(hL:ShL s)(hx:Arr .u8 32 x):
  Calls prog 71 #[.agg (shC s).toArray, .agg (ints .u8 x).toArray] w (Ret w fun v _=>v= .tuple #[.bool (S.hsB s.V x), .int .i64 (S.chkH s.V)]):=by
 have hcp:=H.cap;have hll:s.V.ps.length=s.pn:=by rw[List.length_map,H.pr.len]
 have hoi:=S.ok_iff (v:=s.V) H.ml;refine J.enter 21 func71 rfl rfl ?_;refine run ?_;refine J.box rfl rfl rfl fun b1=>?_
 refine run ?_;refine J.box rfl rfl rfl fun b2=>?_
 refine run ?_;refine J.callp rfl rfl (fun w' M=>shCheck s _ w' (K0.ext M.ext) (H.ext M.ext) hL) ?_;refine run ?_;refine J.ifn rfl (fun c1=>?_) (fun c1=>?_)
 ·obtain⟨k1,k2⟩:=S.chkH_ne c1;refine run ?_;exact J.fin (tup2 (congrArg _ (S.hs_8 k1).symm) rfl)
 have hok:=S.chkH_iff.1 c1;obtain⟨n1,n4⟩:=ok_len H hok;have hgp:=(hoi.1 hok).2.1;obtain⟨r1,r2⟩:=S.res_lt (ps:=s.V.ps) (x:=x) (by omega);obtain⟨g,hg⟩:∃g,s.gs[S.resN s.V.ps x]? =some g:=⟨_,List.getElem?_eq_getElem (by rw[H.pr.len];omega)⟩
 have hgP:=shAt hg;have hin:=S.in_part (x:=x) hgp (by omega);rw[hgP]at hin;refine run ?_;refine J.callp rfl rfl (fun w' M=>shFind s x g w' (H.ext M.ext) hx hgp n1 hg) ?_;refine run ?_;exact J.fin (tup2 (congrArg _ (by rw[S.hs_0 hok];exact decide_eq_decide.2 hin.symm)) (congrArg _ c1.symm))
theorem shGet{S0:Nat→Prop}(s:ShA)(x:List Int)(TK:TypeId)(w:World)(K0:Kst w TK)(H:ShR S0 w s)(hL:ShL s)(hx:Arr .u8 32 x):
  Calls prog 66 #[.agg (shC s).toArray, .agg (ints .u8 x).toArray] w (Gv w (fun q:OpA=> .tuple #[.agg (opC q).toArray, .int .i64 (S.gtE s.V x)]) (fun q=>[.wrow .u8 32 q.pa q.o.n q.o.ids]) fun q=>q.o.n≤q.pc∧q.o=S.gtO s.V x):=by
 have P0:=H.pr;have hcp:=H.cap;have hll:s.V.ps.length=s.pn:=by rw[List.length_map,H.pr.len]
 have hoi:=S.ok_iff (v:=s.V) H.ml;refine J.enter 39 func66 rfl rfl ?_;refine run ?_;refine J.box rfl rfl rfl fun b1=>?_
 refine run ?_;refine J.box rfl rfl rfl fun b2=>?_
 refine run ?_;refine J.alloc rfl fun b3=>?_
 refine run ?_;refine J.callp rfl rfl (fun w' M=>shCheck s _ w' (K0.ext M.ext) (H.ext M.ext) hL) ?_;refine run ?_;refine J.ifn rfl (fun c1=>?_) (fun c1=>?_)
 ·obtain⟨k1,k2⟩:=S.chkH_ne c1;obtain⟨k3,k4⟩:=S.gt_8 (x:=x) k1;rw[k2,k4];refine run ?_;refine J.nilW .u8 32 ?_;exact J.finG ⟨S.OpV.zero,none,0⟩ rfl ⟨Nat.le_refl _,k3.symm⟩ (.cons_cons _ (List.nil_sublist _))
 have hok:=S.chkH_iff.1 c1;obtain⟨n1,n4⟩:=ok_len H hok;have hgp:=(hoi.1 hok).2.1;obtain⟨r1,r2⟩:=S.res_lt (ps:=s.V.ps) (x:=x) (by omega);obtain⟨g,hg⟩:∃g,s.gs[S.resN s.V.ps x]? =some g:=⟨_,List.getElem?_eq_getElem (by rw[H.pr.len];omega)⟩
 have G:=H.g hg;have hgP:=shAt hg;have hin:=S.in_part (x:=x) hgp (by omega);have hop:=S.op_part (x:=x) hgp (by omega);have hgd:=hgp _ r2;rw[hgP]at hin hop hgd;have hcp2:=G.cap;refine run ?_;refine J.callp rfl rfl (fun w' M=>shFind s x g w' (H.ext M.ext) hx hgp n1 hg) ?_;refine run ?_;refine J.ifnot rfl (fun c2=>?_) (fun c2=>?_)
 ·obtain⟨k3,k4⟩:=S.gt_6 hok fun h=>of_decide_eq_false c2 (hin.1 h);rw[k4];refine run ?_;refine J.nilW .u8 32 ?_;exact J.finG ⟨S.OpV.zero,none,0⟩ rfl ⟨Nat.le_refl _,k3.symm⟩ (.cons_cons _ (List.nil_sublist _))
 have c3:S.inS g.m g.ids x:=of_decide_eq_true c2;obtain⟨k3,k4⟩:=S.gt_0 hok (hin.2 c3);rw[k4];have hsp:=S.spotS_ix hgd.2.1 c3;rw[show S.spotS g.m g.ids x=S.ixS g.m g.ids x from hsp];have hlt:=(S.ix_in c3).1;have hgn:g.n=g.m:=by have:=hgd.1.2;have h2:g.ops.length=g.m:=this;have h3:=G.len;omega
 obtain⟨z,hz⟩:=G.ops.ex (i:=(S.ixS g.m g.ids x:Nat)) (by omega);have R:=G.op hz;have hz':=hz;rw[Int.toNat_natCast]at hz';have hzo:=GrA.opAt hz';have G0:=G.ops;have hn40:=R.ok.n;obtain⟨r,hr0⟩:=ex (S.resN s.V.ps x);rw[←hr0]at hg r1 r2⊢;have hg2:s.gs[((r:Nat):Int).toNat]? =some g:=by rw[Int.toNat_natCast];exact hg
 refine run ?_;refine J.alloc rfl fun b4=>?_
 refine run ?_;refine J.call rfl rfl (fun w' M=>cloneW _ _ _ _ _ (R.row.ext M.ext) R.cap (by omega)) fun q hq=>?_
 refine run ?_;refine J.re (.wown 24 .u8 32 q.1 z.o.n q.2 z.o.ids) (.wrow .u8 32 q.1 z.o.n z.o.ids) (fun S w=>wown_wrow) ?_;refine J.finG ⟨z.o,q.1,q.2⟩ rfl ⟨hq,?_⟩ sb;rw[k3,hop c3];exact hzo.symm
theorem shAll{S0:Nat→Prop}(s:ShA)(TK:TypeId)(w:World)(K0:Kst w TK)(H:ShR S0 w s)(hL:ShL s):
  Calls prog 69 #[.agg (shC s).toArray] w (Gv w (fun q:GrA=> .tuple #[.agg (grC q).toArray, .int .i64 (S.chkH s.V)]) (grE 24 37) (GrP (S.alP s.V).m (S.alP s.V).ids (S.alP s.V).ops)):=by
 refine J.enter 7 func69 rfl rfl ?_;refine run ?_;refine J.box rfl rfl rfl fun b1=>?_
 refine run ?_;refine J.alloc rfl fun b2=>?_
 refine run ?_;refine J.call rfl rfl (fun w' M=>shWhole s _ w' (K0.ext M.ext) (H.ext M.ext) hL) fun q hq=>?_
 dsimp only[grE,List.cons_append,List.nil_append];refine run ?_;exact J.finG q rfl hq sb
theorem shHeads{S0:Nat→Prop}(s:ShA)(TK:TypeId)(w:World)(K0:Kst w TK)(H:ShR S0 w s)(hL:ShL s):
  Calls prog 70 #[.agg (shC s).toArray] w (Gv w (fun q:Option Addr×Nat×Nat=> .tuple #[.slice q.1 q.2.1 q.2.2, .int .i64 (S.hdV s.V), .int .i64 (S.chkH s.V)]) (fun q=>[.wrow .u8 32 q.1 q.2.1 (S.hdL s.V)]) fun q=>q.2.1≤100):=by
 have hcp:=H.cap;refine J.enter 15 func70 rfl rfl ?_;refine run ?_;refine J.box rfl rfl rfl fun b1=>?_
 refine run ?_;refine J.callp rfl rfl (fun w' M=>shCheck s _ w' (K0.ext M.ext) (H.ext M.ext) hL) ?_;refine run ?_;refine J.ifn rfl (fun c1=>?_) (fun c1=>?_)
 ·obtain⟨k1,k2⟩:=S.chkH_ne c1;rw[k2,(S.hd_8 k1).1,(S.hd_8 k1).2];refine run ?_;refine J.nilW .u8 32 ?_;exact J.finG (none,0,0) rfl (Nat.zero_le _) (.cons_cons _ (List.nil_sublist _))
 have hok:=S.chkH_iff.1 c1;rw[c1,(S.hd_0 hok).1,(S.hd_0 hok).2];refine run ?_;refine J.regionR [.blk b1 (shC s) 53] [(0, .q),(1, .q),(3, .q),(4, .q),(2, .e),(5, .q),(6, .q),(7, .q)] mixed (by kernel_rfl) (by repeat(first|exact List.Sublist.refl _|refine List.Sublist.cons_cons _ ?_|refine List.Sublist.cons _ ?_)) ?_;refine run ?_;refine J.call rfl rfl (fun w' M=>cloneW _ _ _ _ _ (H.hr.ext M.ext) hcp.2.1 (by omega)) fun q hq=>?_
 refine run ?_;refine J.re (.wown 24 .u8 32 q.1 s.hn q.2 s.hs) (.wrow .u8 32 q.1 s.hn s.hs) (fun S w=>wown_wrow) ?_;exact J.finG (q.1,s.hn,q.2) rfl hcp.2.2.2 sb
theorem grAll_nil(n:Nat):(List.replicate n GrA.nil).map grAll=List.replicate n (.all (grE 24 37 ⟨none,none,0,0,0,0,[],[]⟩)):=by rw[List.map_replicate];rfl
theorem shNew(n:Int)(w:World):
  Calls prog 63 #[.int .i64 n] w (Gv w (fun q:ShA=> .tuple #[.agg (shC q).toArray, .int .i64 (S.nwE n)]) (fun q=>shE q) (ShK (S.nwS n))):=by
 refine J.enter 13 func63 rfl rfl ?_;refine run ?_;refine J.alloc rfl fun b2=>?_
 refine run ?_;refine J.spd rfl rfl rfl (fun c1=>?_) (fun c1=>?_)
 ·refine run ?_;refine J.nilWo 24 .u8 32 ?_;refine J.noA ?_;refine J.nilG (fun g:GrA=>grC g) 2 43 grC_len ?_;have e1:S.nwE n=2:=if_neg (by omega);have e2:S.nwS n=S.ShV.zero:=if_neg (by omega);rw[e1,e2];exact J.finG ShA.zero rfl ⟨rfl,fun g hg=>by cases hg⟩ sb
 refine run ?_;refine J.ifd rfl (fun c2=>?_) (fun c2=>?_)
 ·refine run ?_;refine J.nilWo 24 .u8 32 ?_;refine J.noA ?_;refine J.nilG (fun g:GrA=>grC g) 2 43 grC_len ?_;have e1:S.nwE n=2:=if_neg (by omega);have e2:S.nwS n=S.ShV.zero:=if_neg (by omega);rw[e1,e2];exact J.finG ShA.zero rfl ⟨rfl,fun g hg=>by cases hg⟩ sb
 have e1:S.nwE n=0:=if_pos (by omega);have e2:S.nwS n=S.madeS S.PG.nil n.toNat:=if_pos (by omega);obtain⟨N,rfl⟩:∃N:Nat,n=(N:Int):=⟨n.toNat,by omega⟩
 rw[Int.toNat_natCast]at e2;rw[e1,e2];refine run ?_;refine J.mkG (fun g:GrA=>grC g) GrA.nil grC_len rfl rfl rfl rfl fun b3=>?_
 refine run ?_;refine J.nilWo 24 .u8 32 ?_;refine J.newA ((List.replicate N GrA.nil).map grAll) ?_ (fun w=>by rw[grAll_nil];exact nil_rep _ _ w N);refine J.front (.gown (fun g:GrA=>grC g) 2 43 (some ⟨b3,0,none⟩) N N (List.replicate N GrA.nil)) ?_;refine J.finG ⟨some ⟨b3,0,none⟩,N,N,List.replicate N GrA.nil,none,0,0,[],0⟩ rfl ⟨?_,fun g hg=>?_⟩ sb
 ·rw[S.made_nil];unfold ShA.V;dsimp only;rw[List.map_replicate];rfl
 obtain rfl:=List.eq_of_mem_replicate hg;exact⟨fun z hz=>(by cases hz),fun z hz=>(by cases hz)⟩
end W
namespace S
open G
/-! ### ids by what is among them -/
def idG(n:Nat)(l:List Int):PG:=⟨n,l,List.replicate n OpV.zero⟩
theorem idG_has{n:Nat}{l x:List Int}{o:OpV}:(idG n l).has x o↔inS n l x∧o=OpV.zero:=by
 constructor
 ·rintro⟨i,hi,e1,e2⟩;have hi':i<n:=hi;refine⟨⟨i,hi',e1⟩,?_⟩;rw[←e2];show(List.replicate n OpV.zero).getD i OpV.zero=_;rw[getD_at (by rw[List.length_replicate];exact hi'),List.getElem_replicate]
 ·rintro⟨⟨i,hi,e1⟩,rfl⟩;refine⟨i,hi,e1,?_⟩;show(List.replicate n OpV.zero).getD i OpV.zero=_;rw[getD_at (by rw[List.length_replicate];exact hi),List.getElem_replicate]
theorem idG_good{n:Nat}{l:List Int}(h:l.length=32*n):(idG n l).good:=⟨h,List.length_replicate⟩
theorem idsG_ext{n k:Nat}{l q:List Int}(hl:l.length=32*n)(hq:q.length=32*k)(rl:Rising n l)(rq:Rising k q)(h:∀x,inS n l x↔inS k q x):n=k∧l=q:=by
 have e:idG n l=idG k q:=PG.ext_has (idG_good hl) (idG_good hq) rl rq fun x o=>by rw[idG_has,idG_has,h]
 exact⟨congrArg PG.m e,congrArg PG.ids e⟩
/-! ### heads -/
theorem hd_all{g:PG}(hg:g.fine):(hdI g).length=32*hdN g∧Rising (hdN g) (hdI g)∧∀y,inS (hdN g) (hdI g) y↔inS g.m g.ids y∧∀x u,g.has x u→¬inS u.n u.ids y:=by
 obtain⟨h1,h2,h3⟩:=sel_all (f:=hdF g.m g.ids g.ops) hg.good hg.rising g.m (Nat.le_refl _);refine⟨h1.1,h2,fun y=>?_⟩;have hop:opensS g.m g.ids g.ops:=fun i hi=>by
  intro j hj;exact hg.opens _ _ ⟨i,by rw[←hg.good.2];exact hi,rfl,rfl⟩ j hj
 have named:∀i,i<g.m→(i∈namI (prS g.m g.ids g.ops) g.ops.length↔∃x u,g.has x u∧inS u.n u.ids (idAt g.ids i)):=fun i hi=>by
  unfold namI;rw[List.mem_flatMap];constructor
  ·rintro⟨k,hk,hm⟩;have hk:=List.mem_range.1 hk;exact⟨idAt g.ids k,g.ops.getD k OpV.zero,⟨k,by rw[←hg.good.2];exact hk,rfl,rfl⟩,(mem_pr hg.rising (hop k hk) hi).1 hm⟩
  ·rintro⟨x,u,⟨k,hk,e1,e2⟩,hm⟩;have hk':k<g.ops.length:=by rw[hg.good.2];exact hk
   refine⟨k,List.mem_range.2 hk',(mem_pr hg.rising (hop k hk') hi).2 ?_⟩;rw[e2];exact hm
 refine(has_in (g:=selP (hdF g.m g.ids g.ops) g g.m)).trans ⟨fun⟨o,ho⟩=>?_,fun⟨⟨i,hi,e⟩,hn⟩=>?_⟩
 ·obtain⟨k,hk,hf,e,_⟩:=(h3 _ _).1 ho;have hf:=of_decide_eq_true hf;refine⟨⟨k,hk,e⟩,fun x u hu hi=>hf ((named k hk).2 ⟨x,u,hu,?_⟩)⟩;rw[e];exact hi
 ·refine⟨_,(h3 _ _).2 ⟨i,hi,decide_eq_true fun hm=>?_,e,rfl⟩⟩;obtain⟨x,u,hu,hin⟩:=(named i hi).1 hm;rw[e]at hin;exact hn x u hu hin
def keepF(o:OpV)(hs:List Int)(i:Nat):Bool:=decide (¬inS o.n o.ids (idAt hs i))
def kpN(o:OpV)(n:Nat)(hs:List Int):Nat:=numF (keepF o hs) n
def kpI(o:OpV)(n:Nat)(hs:List Int):List Int:=selF (keepF o hs) hs n
theorem kp_all{o:OpV}{n:Nat}{hs:List Int}(hl:hs.length=32*n)(hr:Rising n hs):(kpI o n hs).length=32*kpN o n hs∧Rising (kpN o n hs) (kpI o n hs)∧∀y,inS (kpN o n hs) (kpI o n hs) y↔inS n hs y∧¬inS o.n o.ids y:=by
 obtain⟨h1,h2,h3⟩:=sel_all (f:=keepF o hs) (g:=idG n hs) (idG_good hl) hr n (Nat.le_refl _);refine⟨h1.1,h2,fun y=>(has_in (g:=selP (keepF o hs) (idG n hs) n)).trans ⟨fun⟨u,hu⟩=>?_,fun⟨⟨i,hi,e⟩,hn⟩=>?_⟩⟩
 ·obtain⟨k,hk,hf,e,_⟩:=(h3 _ _).1 hu;have hf:=of_decide_eq_true hf;have e':idAt hs k=y:=e;rw[e']at hf;exact⟨⟨k,hk,e⟩,hf⟩
 ·refine⟨_,(h3 _ _).2 ⟨i,hi,decide_eq_true ?_,e,rfl⟩⟩;have e':idAt hs i=y:=e;show ¬inS o.n o.ids (idAt hs i);rw[e'];exact hn
theorem hd_add{g:PG}{o:OpV}(hl:g.ids.length=32*g.m)(h:addE g o=0):
  hdN (addP g o)=kpN o (hdN g) (hdI g)+1∧hdI (addP g o)=insW (kpI o (hdN g) (hdI g)) (spotS (kpN o (hdN g) (hdI g)) (kpI o (hdN g) (hdI g)) (idOf o)) (idOf o):=by
 obtain⟨hg,hn,hf,_,_,hh⟩:=add_fine hl h;obtain⟨_,_,_,hall,_⟩:=addE_zero.1 h;obtain⟨a1,a2,a3⟩:=hd_all hg;obtain⟨b1,b2,b3⟩:=hd_all hf;obtain⟨c1,c2,c3⟩:=kp_all (o:=o) a1 a2;have hx:=idOf_len o;have hk:(idG (kpN o (hdN g) (hdI g)) (kpI o (hdN g) (hdI g))).good:=idG_good c1;have hni:¬inS (kpN o (hdN g) (hdI g)) (kpI o (hdN g) (hdI g)) (idOf o):=fun k=>hn ((a3 _).1 ((c3 _).1 k).1).1;have p1:=(putP_good hk hx OpV.zero).1;have p2:=putP_rising hk c2 hx hni OpV.zero;refine idsG_ext b1 p1 b2 p2 fun y=>?_
 have e:inS (putP (idG (kpN o (hdN g) (hdI g)) (kpI o (hdN g) (hdI g))) (idOf o) OpV.zero).m (putP (idG (kpN o (hdN g) (hdI g)) (kpI o (hdN g) (hdI g))) (idOf o) OpV.zero).ids y↔inS (kpN o (hdN g) (hdI g)) (kpI o (hdN g) (hdI g)) y∨y=idOf o:=putP_in hk hx OpV.zero;refine(b3 y).trans (Iff.trans ?_ e.symm);rw[c3,a3];constructor
 ·rintro⟨h1,h2⟩;obtain⟨u,hu⟩:=has_in.1 h1;rcases(hh y u).1 hu with k|⟨k,_⟩
  ·exact .inl ⟨⟨has_in.2 ⟨u,k⟩,fun x v hv=>h2 x v ((hh x v).2 (.inl hv))⟩,h2 _ o ((hh _ o).2 (.inr ⟨rfl,rfl⟩))⟩
  ·exact .inr k
 ·rintro(⟨⟨h1,h2⟩,h3⟩|rfl)
  ·obtain⟨u,hu⟩:=has_in.1 h1;refine⟨has_in.2 ⟨u,(hh _ _).2 (.inl hu)⟩,fun x v hv=>?_⟩;rcases(hh x v).1 hv with k|⟨_,rfl⟩
   ·exact h2 x v k
   ·exact h3
  ·refine⟨has_in.2 ⟨o,(hh _ _).2 (.inr ⟨rfl,rfl⟩)⟩,fun x v hv=>?_⟩;rcases(hh x v).1 hv with k|⟨_,rfl⟩
   ·rintro⟨j,hj,e⟩;exact hn (e▸hg.opens x v k j hj)
   ·rintro⟨j,hj,e⟩;exact hn (e▸hall j hj)
/-! ### parts -/
theorem setP_getD{α:Type}{l:List α}{d y:α}{k i:Nat}(hk:k<l.length):(l.set k y).getD i d=if i=k then y else l.getD i d:=by
 rw[List.getD_eq_getElem?_getD,List.getElem?_set,List.getD_eq_getElem?_getD];by_cases e:k=i
 ·subst e;simp[hk]
 ·rw[if_neg e,if_neg fun h=>e h.symm]
theorem made_put{v:ShV}{o:OpV}(hv:okP v)(h:addE (whole v.ps) o=0):
  madeS (addP (whole v.ps) o) v.ps.length=⟨v.ps.set (resN v.ps (idOf o)) (putP (v.ps.getD (resN v.ps (idOf o)) PG.nil) (idOf o) o),kpN o (hdN (whole v.ps)) v.hs+1,insW (kpI o (hdN (whole v.ps)) v.hs) (spotS (kpN o (hdN (whole v.ps)) v.hs) (kpI o (hdN (whole v.ps)) v.hs) (idOf o)) (idOf o),v.ver+1⟩:=by
 obtain⟨hn,hgp,hc,h2,h3⟩:=hv;have hm:=whole_mrg hgp;have hl:=hm.good.1;obtain⟨hg,hni,hf,hm1,_,hh⟩:=add_fine hl h;obtain⟨e1,e2⟩:=hd_add hl h;obtain⟨r1,r2⟩:=res_lt (ps:=v.ps) (x:=idOf o) (by omega);have hx:=idOf_len o;rw[h3,h2];unfold madeS;rw[e1,e2,hm1];have ep:List.map (prtS (addP (whole v.ps) o) v.ps.length) (List.range v.ps.length)=v.ps.set (resN v.ps (idOf o)) (putP (v.ps.getD (resN v.ps (idOf o)) PG.nil) (idOf o) o):=by
  apply List.ext_getElem
  ·simp
  ·intro i hi hi';have hi2:i<v.ps.length:=by simpa using hi
   rw[List.getElem_map,List.getElem_range,←getD_at (d:=PG.nil) hi',setP_getD r2];obtain⟨q1,q2,q3⟩:=prt_all (n:=v.ps.length) (i:=i) hf.good hf.rising;have pi:=hgp i hi2;have pb:=prt_back hgp hm hi2;obtain⟨s1,s2,s3⟩:=prt_all (n:=v.ps.length) (i:=i) hm.good hm.rise;rw[pb]at s3;by_cases e:i=resN v.ps (idOf o)
   ·rw[if_pos e];subst e;have hnp:¬inS (v.ps.getD (resN v.ps (idOf o)) PG.nil).m (v.ps.getD (resN v.ps (idOf o)) PG.nil).ids (idOf o):=fun k=>hni ((in_part hgp (by omega)).2 k);refine PG.ext_has q1 (putP_good pi.1 hx o) q2 (putP_rising pi.1 pi.2.1 hx hnp o) fun y u=>?_
    rw[q3,hh,putP_has pi.1 hx,s3];constructor
    ·rintro⟨k|k,hr⟩
     ·exact .inl ⟨k,hr⟩
     ·exact .inr k
    ·rintro(⟨k,hr⟩|⟨rfl,rfl⟩)
     ·exact⟨.inl k,hr⟩
     ·exact⟨.inr ⟨rfl,rfl⟩,r1.symm⟩
   ·rw[if_neg e];refine PG.ext_has q1 pi.1 q2 pi.2.1 fun y u=>?_
    rw[q3,hh,s3];constructor
    ·rintro⟨k|⟨rfl,rfl⟩,hr⟩
     ·exact⟨k,hr⟩
     ·exact absurd (by omega) e
    ·rintro⟨k,hr⟩;exact⟨.inl k,hr⟩
 rw[ep];rfl
/-! ### what Put tells -/
open Classical in
noncomputable def puE(v:ShV)(o:OpV):Int:=if okR v then addE (whole v.ps) o else 8
open Classical in
noncomputable def puS(v:ShV)(o:OpV):ShV:=if okR v∧addE (whole v.ps) o=0 then madeS (addP (whole v.ps) o) v.ps.length else ShV.zero
open Classical in
noncomputable def puI(v:ShV)(o:OpV):List Int:=if okR v then addI (whole v.ps) o else List.replicate 32 0
section
variable{v:ShV}{o:OpV}
theorem pu_8(h:¬okR v):puE v o=8∧puS v o=ShV.zero∧puI v o=List.replicate 32 0:=⟨if_neg h,if_neg fun k=>h k.1,if_neg h⟩
theorem pu_no{e:Int}(h:okR v)(h1:addE (whole v.ps) o=e)(h2:e≠0):puE v o=e∧puS v o=ShV.zero∧puI v o=List.replicate 32 0:=by
 subst h1;refine⟨if_pos h,if_neg fun k=>h2 k.2,?_⟩;unfold puI;rw[if_pos h,(addP_no h2).2]
theorem pu_0(h:okR v)(h1:addE (whole v.ps) o=0):puE v o=0∧puS v o=madeS (addP (whole v.ps) o) v.ps.length∧puI v o=idOf o:=by
 refine⟨by unfold puE;rw[if_pos h,h1],if_pos ⟨h,h1⟩,?_⟩;unfold puI;rw[if_pos h,(addP_yes h1).2]
end
end S
namespace W
open Go.RowKit G
set_option maxRecDepth 20000
set_option maxHeartbeats 8000000
attribute [local irreducible] RS RX RY Code.wp bodyPost J Ent.blk Ent.iown Ent.wrow Ent.wown Ent.gown Ent.all Ent.emp
structure TsA where
 (i:Nat)(a:Option Addr)(c:Nat)(gs:List GrA)
theorem gsTake{s:ShA}{i:Nat}{g q:GrA}{gs:List GrA}(hg:s.gs[i]? =some g)(hq:q.P=g.P)(h:gs.map GrA.P=s.V.ps.take i):(gs++[q]).map GrA.P=s.V.ps.take (i+1):=by
 have e:s.V.ps[i]? =some g.P:=by show(s.gs.map GrA.P)[i]? =_;rw[List.getElem?_map,hg];rfl
 rw[List.map_append,h,List.take_add_one,e,Option.toList_some,List.map_cons,List.map_nil,hq]
theorem refShTwin{S0:Nat→Prop}(s:ShA)(w:World)(H:ShR S0 w s):
  Calls prog 67 #[.agg (shC s).toArray] w (Gv w (fun q:ShA=> .agg (shC q).toArray) (fun q=>shE q) (ShK s.V)):=by
 have P0:=H.pr;have hl:=P0.len;have hH:=H.hr;have hcp:=H.cap;refine J.enter 30 func67 rfl rfl ?_;refine run ?_;refine J.box rfl rfl rfl fun b1=>?_
 refine J.alloc rfl fun b2=>?_
 refine run ?_;refine J.joinX (A:=(Option Addr×Nat)×Nat) (fun u=>[(3, .pointer (some ⟨u.2,0,none⟩))]) [5,6,7,8,9,10,11] (fun u=>[.blk u.2 [.slice none 0 0, .slice u.1.1 s.hn u.1.2, .int .i64 s.ver] 53, .wown 24 .u8 32 u.1.1 s.hn u.1.2 s.hs, .blk b2 [.slice none 0 0, .slice none 0 0, .int .i64 0] 53, .blk b1 (shC s) 53]) (fun u=>True) ?_ (fun u j hu=>?_)
 ·refine J.regionW [.blk b1 (shC s) 53] mixed ?_;refine J.wnode [(1, .q),(2, .q),(4, .q),(5, .q)] [0,7] 4 #[false,true,true,false,true,true,false,false,false] (by kernel_rfl) ?_;refine run ?_;refine J.nil ?_;refine J.wbr ?_ ?_
  ·refine J.b0W .u8 rfl fun b3=>?_
   refine J.nil ?_;refine J.wnode [] [3,7] 3 #[true,true,true,false,true,true,false,false,false] (by kernel_rfl) ?_;refine run ?_;refine J.nil ?_;refine J.wbr ?_ ?_
   ·refine J.apW rfl rfl (RW.arg hH) fun a' c'=>?_
    rw[Nat.zero_add s.hn,List.nil_append s.hs];refine J.nil ?_;refine J.wfin [(6, .q),(7, .e),(8, .e)] (by kernel_rfl) ?_;refine run ?_;refine J.alloc rfl fun b5=>?_
    refine run ?_;refine run ?_;refine J.front (.wown 24 .u8 32 a' s.hn c' s.hs) ?_;refine J.front (.blk b5 [.slice none 0 0, .slice a' s.hn c', .int .i64 s.ver] 53) ?_;exact J.cut ((a',c'),b5) ⟨rfl,trivial⟩ (by kernel_rfl) trivial
   refine J.wbr ?_ ?_
   ·refine J.alloc rfl fun b5=>?_
    refine J.nil ?_;refine J.wfin [(3, .e),(6, .q),(8, .e)] (by kernel_rfl) ?_;refine run ?_;refine J.apW rfl rfl (RW.arg hH) fun a' c'=>?_
    rw[Nat.zero_add s.hn,List.nil_append s.hs];refine run ?_;refine run ?_;refine J.front (.wown 24 .u8 32 a' s.hn c' s.hs) ?_;refine J.front (.blk b5 [.slice none 0 0, .slice a' s.hn c', .int .i64 s.ver] 53) ?_;exact J.cut ((a',c'),b5) ⟨rfl,trivial⟩ (by kernel_rfl) trivial
   exact J.wbr0
  refine J.wbr ?_ ?_
  ·refine J.alloc rfl fun b5=>?_
   refine J.nil ?_;refine J.wfin [(0, .e),(3, .e),(6, .q),(8, .e)] (by kernel_rfl) ?_;refine run ?_;refine J.b0W .u8 rfl fun b3=>?_
   refine run ?_;refine J.apW rfl rfl (RW.arg hH) fun a' c'=>?_
   rw[Nat.zero_add s.hn,List.nil_append s.hs];refine run ?_;refine run ?_;refine J.front (.wown 24 .u8 32 a' s.hn c' s.hs) ?_;refine J.front (.blk b5 [.slice none 0 0, .slice a' s.hn c', .int .i64 s.ver] 53) ?_;exact J.cut ((a',c'),b5) ⟨rfl,trivial⟩ (by kernel_rfl) trivial
  exact J.wbr0
 obtain⟨⟨ha,hc⟩,b3⟩:=u;dsimp only;refine run ?_;refine J.noA ?_;refine J.nilG (fun g:GrA=>grC g) 2 43 grC_len ?_;refine J.loop (A:=TsA) (fun p=>[(4, .int .i64 (p.i:Nat))]) [12,13,14,15,16,17,18,19,20,21,22,23,24,25,26,27,28,29] (fun p=>[.gown (fun g:GrA=>grC g) 2 43 p.a p.i p.c p.gs, .all (p.gs.map grAll), .blk b3 [.slice p.a p.i p.c, .slice ha s.hn hc, .int .i64 s.ver] 53, .wown 24 .u8 32 ha s.hn hc s.hs, .blk b2 [.slice none 0 0, .slice none 0 0, .int .i64 0] 53, .blk b1 (shC s) 53]) (fun p=>p.i≤s.pn∧p.gs.map GrA.P=s.V.ps.take p.i∧∀x∈p.gs,GrK x) (fun p=>s.pn - p.i) ⟨0,none,0,[]⟩ (by kernel_rfl) ⟨Nat.zero_le _,rfl,fun z hz=>(by cases hz)⟩ (fun p j2 hI=>?_);obtain⟨hp,hps,hpk⟩:=hI;refine run ?_;refine J.ifd rfl (fun c1=>?_) (fun c1=>?_)
 ·obtain⟨g,hg⟩:=P0.ex (i:=(p.i:Nat)) (by omega);have hg':=hg;rw[Int.toNat_natCast]at hg';have G:=H.g hg';have hcp2:=G.cap;refine run ?_;refine J.regionX [(0, .q),(1, .q),(2, .q),(3, .q),(4, .q),(5, .q),(6, .q),(7, .e),(8, .e),(9, .g),(10, .q),(11, .g)] mixed (by kernel_rfl) ?_;refine run ?_;refine J.call rfl rfl (fun w' M=>refGTwin g w' (G.ext M.ext)) fun q hq=>?_
  dsimp only[grE,List.cons_append,List.nil_append];refine J.b1G (fun g:GrA=>grC g) q grC_len rfl rfl rfl fun bb=>?_
  refine J.apG rfl rfl RG.own' grC_one fun a' c'=>?_
  refine run ?_;refine J.triG q ?_;refine J.snocA (p.gs.map grAll) (grAll q) ?_;refine J.re (.all (p.gs.map grAll++[grAll q])) (.all ((p.gs++[q]).map grAll)) (fun _ _ h=>by rw[List.map_append];exact h) ?_;refine J.drop (E:=[.gown (fun g:GrA=>grC g) 2 43 a' (p.i+1) c' (p.gs++[q]), .all ((p.gs++[q]).map grAll), .blk b3 [.slice a' (p.i+1) c', .slice ha s.hn hc, .int .i64 s.ver] 53, .wown 24 .u8 32 ha s.hn hc s.hs, .blk b2 [.slice none 0 0, .slice none 0 0, .int .i64 0] 53, .blk b1 (shC s) 53]) sb ?_
  exact J.next ⟨p.i + 1, a', c', p.gs ++ [q]⟩ ⟨rfl, trivial⟩ (by kernel_rfl) ⟨by dsimp only; omega, gsTake hg' (GrP.P (P := g.P) hq) hps, fun y hy => by
   rcases List.mem_append.1 hy with h | h
   ·exact hpk y h
   rw [List.mem_singleton] at h
   subst h
   exact ⟨hq.ok G.opz, hq.cap⟩⟩ (by dsimp only; omega)
 obtain⟨pi,pa,pc,gs⟩:=p;dsimp only at hp hps hpk c1⊢;obtain rfl:pi=s.pn:=by omega
 refine run ?_;refine J.finG ⟨pa,s.pn,pc,gs,ha,s.hn,hc,s.hs,s.ver⟩ rfl ⟨?_,hpk⟩ sb;unfold ShA.V;dsimp only;rw[hps,List.take_of_length_le (by rw[List.length_map,hl];exact Nat.le_refl _)]
theorem shZero{v:S.ShV}(h:v=S.ShV.zero):ShK v ShA.zero:=⟨h.symm,fun g hg=>by cases hg⟩
instance:Ents prog 235:=⟨.mk func235 (by kernel_rfl) rfl⟩
instance:Ents prog 154:=⟨.mk func154 (by kernel_rfl) rfl⟩
instance:Ents prog 153:=⟨.mk func153 (by kernel_rfl) rfl⟩
instance:Ents prog 147:=⟨.mk func147 (by kernel_rfl) rfl⟩
theorem opC_cell(z:OpA):∀u∈opC z,cellB u=true:=by
 intro u hu;simp only[opC,List.mem_cons,List.not_mem_nil,or_false]at hu;rcases hu with rfl|rfl|rfl|rfl|rfl|rfl|rfl|rfl|rfl|rfl|rfl<;>rfl
theorem insOp0(a:Option Addr)(n c:Nat)(l:List OpA)(i:Nat)(x:OpA)(b2:Nat)(w:World)(hO:GOwn opC 11 0 w 37 a n c l)(hi:i≤n)(hn:n≤1000)(hB:Blk w b2 (opC x) 37)(hne:¬obk a=some b2):
  Calls prog 151 #[.slice a n c, .int .i64 i, .slice (some ⟨b2,0,none⟩) 1 1] w (Gw w opC 11 37 a (l.take i++x::l.drop i)):=by
 have hlen:=hO.len;have hcn:=hO.capn;have hcm:=hO.own.cap.2;refine J.enterG 92 hO func151 rfl rfl ?_;refine run ?_;refine J.ife rfl (fun h=>?_) (fun h=>?_)
 ·obtain rfl:i=n:=by omega
  refine run ?_;refine J.apG rfl rfl (RG.blkO hB hne opC_len) opC_one fun a' c'=>?_
  refine run ?_;have e:l.take i++x::l.drop i=l++[x]:=by rw[List.take_of_length_le (by omega),List.drop_of_length_le (by omega)]
  rw[e];exact J.finW rfl
 have hin:i<n:=by omega
 obtain⟨g,rfl⟩:=hO.some (by omega);have hlt:(l.take i++x::l.drop i).length=n+1:=by simp;omega
 refine run ?_;refine J.ifd rfl (fun h2=>?_) (fun h2=>?_)
 ·refine run ?_;refine J.apZ (p:=i) (k0:=n+1 - i) opC n l rfl (by(conv=>lhs;whnf)<;>exact sl3 (by omega) (by omega) rfl) (by(conv=>lhs;whnf)<;>exact congrArg _ (by omega)) fun b' c' cs' hcs=>?_
  obtain⟨k1,k2,k3,k4⟩:=hcs;refine run ?_;refine J.copyR (b:=b') (o:=i*11) (n:=n+1 - i) (k:=1) (by(conv=>lhs;whnf)<;>exact sl3 (by omega) (by omega) rfl) rfl (RG.cells (RG.blkO hB hne opC_len)) (by rw[List.flatMap_cons,List.flatMap_nil,List.append_nil,opC_len]) (fun u hu=>opC_cell x u (by simpa using List.mem_of_mem_take hu)) rfl ?_;refine run ?_;refine J.regionX [(0, .q),(1, .q),(2, .q),(3, .q),(4, .q),(5, .q),(6, .q),(7, .q),(8, .g)] mixed (by kernel_rfl) ?_;refine run ?_;refine J.copyR (b:=b') (o:=(i+1)*11) (n:=n - i) (n2:=n - i) (k:=n - i) (a:=some ⟨g,i*11,none⟩) (by(conv=>lhs;whnf)<;>exact sl3 (by omega) (by omega) rfl) (by(conv=>lhs;whnf)<;>exact sl3 (by omega) (by omega) rfl) (RG.cells (RG.tail RG.own' hin)) (by rw[flat_len opC 11 opC_len,List.length_drop,hlen,Nat.mul_comm]) (fun u hu=>by obtain⟨y,_,hy⟩:=List.mem_flatMap.1 (List.mem_of_mem_take hu);exact opC_cell y u hy) rfl ?_ (ho:=by simp only[splice_length];omega);refine run ?_;have hz:=(ins_flat (f:=opC) (sz:=11) (z:=x) opC_len hlen hin (by omega) k2).2
  refine J.ruc opC 11 37 b' (n + 1) c' (l.take i ++ x :: l.drop i) opC_len (by simp only [splice_length]; exact k1) (by
   rw [← hz]
   congr 2
   rw [List.take_of_length_le (by rw [flat_len opC 11 opC_len, List.length_drop, hlen]; omega)]) (by omega) k4 hlt ?_
  exact J.finW (a':=some ⟨b',0,none⟩) (n':=n+1) (c':=c') (by(conv=>lhs;whnf)<;>exact sl3 (by omega) (by omega) rfl)
 refine run ?_;refine J.cur opC 11 37 g n c l fun cur hcur=>?_
 obtain⟨k1,k2,k3,k4,k5⟩:=hcur;have hcl:(n+1)*11≤cur.length:=by omega
 refine J.extv (E := Extern.SlicesOverlaps.overlaps #[41, 41] #[4]) (v := .bool false) func233 (by kernel_rfl) (by kernel_rfl) (by kernel_rfl) (by kernel_rfl) rfl (fun w' M => by
  have B1 := hB.pr M.pr hne
  have B2 : Blk w' g cur 37 := M.blk .here
  exact Lib.run_overlaps_apart w' _ _ 37 Und.h 11 (fun w => size_run Siz.h (by decide)) ⟨b2, 0, none⟩ ⟨g, _, none⟩ 1 1 _ _ (fun e => hne (show some g = some b2 from congrArg some (show g = b2 from e.symm))) _ _ _ _ (blk_shape B1) (blk_shape B2) (by omega) (blk_free B1) (blk_free B1)) ?_
 refine run ?_;refine J.regionX [(0, .q),(1, .q),(2, .q),(3, .q),(4, .q),(5, .q),(6, .q),(7, .q),(8, .g)] mixed (by kernel_rfl) ?_;refine run ?_;refine J.copyR (b:=g) (o:=(i+1)*11) (n:=n - i) (k:=n - i) (n2:=n+1 - i) (ds:=(cur.drop (i*11)).take ((n+1 - i)*11)) (by(conv=>lhs;whnf)<;>exact sl3 (by omega) (by omega) rfl) (by(conv=>lhs;whnf)<;>exact sl3 (by omega) (by omega) rfl) (fun w' M=>⟨_,M.part (o:=i*11) (b:=g) (by rw[List.length_take,List.length_drop,Nat.min_eq_left (by omega)])⟩) (by rw[List.length_take,List.length_drop];omega) (fun u hu=>?_) rfl ?_
 ·rw[List.take_take,Nat.min_eq_left (by omega)]at hu;have h5:=flat_drop opC 11 opC_len l i;rw[←k2,List.drop_take,show n*11 - i*11=(n - i)*11 by omega]at h5;rw[h5]at hu;obtain⟨y,_,hy⟩:=List.mem_flatMap.1 hu;exact opC_cell y u hy
 refine run ?_;refine J.copyR (b:=g) (o:=i*11) (n:=n+1 - i) (k:=1) (by(conv=>lhs;whnf)<;>exact sl3 (by omega) (by omega) rfl) rfl (RG.cells (RG.blkO hB hne opC_len)) (by rw[List.flatMap_cons,List.flatMap_nil,List.append_nil,opC_len]) (fun u hu=>opC_cell x u (by simpa using List.mem_of_mem_take hu)) rfl ?_ (ho:=by simp only[splice_length];omega);refine run ?_;have hz:=(ins_flat (f:=opC) (sz:=11) (z:=x) (cs:=cur) opC_len hlen hin hcl (by rw[←flat_take opC 11 opC_len,←k2,List.take_take,Nat.min_eq_left (by omega)])).1
 refine J.ruc opC 11 37 g (n + 1) c (l.take i ++ x :: l.drop i) opC_len (by simp only [splice_length]; exact k1) (by
  rw [← hz]
  congr 2
  congr 1
  rw [List.take_take, Nat.min_eq_left (by omega), ← flat_drop opC 11 opC_len, ← k2, List.drop_take, show n * 11 - i * 11 = (n - i) * 11 by omega]) (by omega) k4 hlt ?_
 exact J.finW (by(conv=>lhs;whnf)<;>exact sl3 (by omega) (by omega) rfl)
theorem idxID{S0:Nat→Prop}(a:Option Addr)(n c:Nat)(ids x:List Int)(w:World)(D0:WRow .u8 32 S0 w a n ids)(hx:Arr .u8 32 x)(hn:n≤100000):
  Calls prog 235 #[.slice a n c, .agg (ints .u8 x).toArray] w (Gv w (fun r:Int=> .int .i64 r) (fun _=>[]) fun r=>0≤r↔S.inS n ids x):=by
 have hl:=D0.len;refine J.enter 17 func235 rfl rfl ?_;refine run ?_;refine J.box rfl rfl rfl fun b1=>?_
 refine run ?_;refine J.loopS (A:=Int) (fun p=>[(8, .int .i64 p)]) [4,5,9,10,11,12,13,14,15,16,17,18] (fun p=>(0≤p∧p≤n)∧∀i,i<p.toNat→S.idAt ids i≠x) (fun p=>n - p.toNat) 0 (by kernel_rfl) ⟨by omega,fun i hi=>by omega⟩ (fun p j hI=>?_);obtain⟨h1,hI⟩:=hI;refine run ?_;refine J.ifd rfl (fun c1=>?_) (fun c1=>?_)
 ·obtain⟨q,hq⟩:=ex (elt 32 ids p.toNat);have hqa:Arr .u8 32 q:=hq▸D0.elt_arr (by omega);refine run ?_;refine J.regionX [(0, .q),(1, .q),(2, .q),(3, .q),(4, .q),(5, .q)] mixed (by kernel_rfl) ?_;refine run ?_;refine J.ifd rfl (fun c2=>?_) (fun c2=>?_)
  ·refine run ?_;exact J.finG p rfl ⟨fun _=>⟨p.toNat,by omega,by rw[c2];exact hq.symm⟩,fun _=>by omega⟩ (List.nil_sublist _)
  refine run ?_;refine J.nextS (p+1) ⟨rfl,trivial⟩ (by kernel_rfl) ⟨by omega,fun i hi=>?_⟩ (by omega);rcases Nat.lt_or_ge i p.toNat with e|e
  ·exact hI i e
  obtain rfl:i=p.toNat:=by omega
  exact fun h=>c2 (h.symm.trans hq.symm)
 refine run ?_;exact J.finG (-1) rfl ⟨fun h=>by omega,fun⟨i,hi,e⟩=>absurd e (hI i (by omega))⟩ (List.nil_sublist _)
theorem hasID{S0:Nat→Prop}(a:Option Addr)(n c:Nat)(ids x:List Int)(w:World)(D0:WRow .u8 32 S0 w a n ids)(hx:Arr .u8 32 x)(hn:n≤100000):
  Calls prog 154 #[.slice a n c, .agg (ints .u8 x).toArray] w (Ret w fun v _=>v= .bool (decide (S.inS n ids x))):=by
 refine J.enter 7 func154 rfl rfl ?_;refine run ?_;refine J.box rfl rfl rfl fun b1=>?_
 refine run ?_;refine J.call rfl rfl (fun w' M=>idxID a n c ids x w' (D0.ext M.ext) hx hn) fun r hr=>?_
 refine run ?_;exact J.fin (congrArg _ (decide_eq_decide.2 hr))
def kpB(o:S.OpV)(y:IdV):Bool:=decide (¬S.inS o.n o.ids y.xs)
theorem kp_filter(o:S.OpV){l:List IdV}{hs:List Int}(he:flatI l=hs):∀k,k≤l.length→S.selF (S.keepF o hs) hs k=flatI ((l.take k).filter (kpB o))∧S.numF (S.keepF o hs) k=((l.take k).filter (kpB o)).length
 |0,_=>⟨rfl,rfl⟩
 |k+1,hk=>by
  obtain⟨h1,h2⟩:=kp_filter o he k (by omega);obtain⟨y,hy⟩:∃y,l[k]? =some y:=⟨_,List.getElem?_eq_getElem (by omega)⟩
  have hi:=idv_at he hy;have hb:S.keepF o hs k=kpB o y:=by unfold S.keepF kpB;rw[hi]
  rw[S.selF,S.numF,h1,h2,hb,hi,List.take_add_one,hy,Option.toList_some,List.filter_append];cases h:kpB o y with
  |true=>rw[List.filter_cons_of_pos h,List.filter_nil];exact⟨by unfold flatI;simp,by simp⟩
  |false=>rw[List.filter_cons_of_neg (by rw[h];decide),List.filter_nil];exact⟨by simp,by simp⟩
theorem shPut2{S1:Nat→Prop}(z:OpA)(x:List Int)(b:Nat)(T:TypeId)(w:World)(hB:Blk w b (opC z) T)(D1:WRow .u8 32 S1 w z.pa z.o.n z.o.ids)(hx:Arr .u8 32 x)(hn:z.o.n≤1000):
  Calls prog 153 #[.agg (ints .u8 x).toArray, .pointer (some ⟨b,0,none⟩)] w (Ret w fun v _=>v= .bool (decide (S.inS z.o.n z.o.ids x))):=by
 refine J.enter 6 func153 rfl rfl ?_;refine run ?_;refine J.box rfl rfl rfl fun b1=>?_
 refine run ?_;refine J.ldOq hB rfl ?_;refine run ?_;refine J.callp rfl rfl (fun w' M=>hasID _ _ _ _ _ w' (D1.ext M.ext) hx (by omega)) ?_;refine run ?_;exact J.fin rfl
theorem idxPut2{S1 S2:Nat→Prop}(a:Option Addr)(n c:Nat)(l:List IdV)(z:OpA)(b:Nat)(T:TypeId)(w:World)(D0:GRow idC 32 S2 w a n l)(hn:n≤1000)(hA:∀y∈l,Arr .u8 32 y.xs)(hB:Blk w b (opC z) T)(D1:WRow .u8 32 S1 w z.pa z.o.n z.o.ids)(hz:z.o.n≤1000):
  Calls prog 230 #[.slice a n c, .func (.func 153) #[] #[.pointer (some ⟨b,0,none⟩)]] w (Gv w (fun r:Int=> .int .i64 r) (fun _=>[]) fun r=>(r= -1∧l.filter (kpB z.o)=l)∨∃i:Nat,r=(i:Nat)∧i<n∧(l.take (i+1)).filter (kpB z.o)=l.take i):=by
 have hl:=D0.len;refine J.enter 17 func230 rfl rfl ?_;refine run ?_;refine J.loopS (A:=Int) (fun p=>[(8, .int .i64 p)]) [4,5,9,10,11,12,13,14,15,16,17,18] (fun p=>(0≤p∧p≤n)∧(l.take p.toNat).filter (kpB z.o)=l.take p.toNat) (fun p=>n - p.toNat) 0 (by kernel_rfl) ⟨by omega,rfl⟩ (fun p j hI=>?_);obtain⟨h1,hI⟩:=hI;refine run ?_;refine J.ifd rfl (fun c1=>?_) (fun c1=>?_)
 ·obtain⟨y,hy⟩:=D0.ex (i:=p) (by omega);have e:(l.take (p.toNat+1)).filter (kpB z.o)=l.take p.toNat++if kpB z.o y then [y]else []:=by
   rw[List.take_add_one,hy,Option.toList_some,List.filter_append,hI];cases h:kpB z.o y with
   |true=>rw[List.filter_cons_of_pos h];rfl
   |false=>rw[List.filter_cons_of_neg (by rw[h];decide)];rfl
  refine run ?_;refine J.ldGa (i:=p) (sz:=32) (off:=0) rfl (RG.arg D0) ?_ (q:=y) (hf:=idC_all y) (hn:=idC_len y);refine run ?_;refine J.callvp rfl rfl rfl (fun w' M=>shPut2 z y.xs b T w' (hB.ext M.ext) (D1.ext M.ext) (hA y (List.mem_of_getElem? hy)) hz) ?_;refine run ?_;refine J.ifd rfl (fun c2=>?_) (fun c2=>?_)
  ·refine run ?_;refine J.finG p rfl (.inr ⟨p.toNat,by omega,by omega,?_⟩) (List.nil_sublist _);rw[e,show kpB z.o y=false from decide_eq_false (not_not_intro c2)];simp
  refine run ?_;refine J.nextS (p+1) ⟨rfl,trivial⟩ (by kernel_rfl) ⟨by omega,?_⟩ (by omega);rw[show(p+1).toNat=p.toNat+1 by omega,e,show kpB z.o y=true from decide_eq_true c2,List.take_add_one,hy];rfl
 refine run ?_;refine J.finG (-1) rfl (.inl ⟨rfl,?_⟩) (List.nil_sublist _);rwa[List.take_of_length_le (by omega)]at hI
structure DlA where
 (i j:Nat)(l:List IdV)
theorem delPut2{S1:Nat→Prop}(a:Option Addr)(n c:Nat)(l:List IdV)(z:OpA)(b:Nat)(T:TypeId)(w:World)(hO:GOwn idC 32 0 w 24 a n c l)(hn:n≤1000)(hA:∀y∈l,Arr .u8 32 y.xs)(hB:Blk w b (opC z) T)(hne:¬obk a=some b)(D1:WRow .u8 32 S1 w z.pa z.o.n z.o.ids)(hS:∀q,S1 q→obk a=some q→False)(hz:z.o.n≤1000):
  Calls prog 152 #[.slice a n c, .func (.func 153) #[] #[.pointer (some ⟨b,0,none⟩)]] w (Gw w idC 32 24 a (l.filter (kpB z.o))):=by
 have hlen:=hO.len;have hcn:=hO.capn;have hcm:=hO.own.cap.2;refine J.enterG 40 hO func152 rfl rfl ?_;refine run ?_;refine J.call rfl rfl (fun w' M=>(RG.own' (a:=a) w' M).elim fun _ k0=>idxPut2 a n c l z b T w' k0 hn hA (hB.pr M.pr hne) (D1.pr M.pr hS) hz) fun r hr=>?_
 refine run ?_;refine J.ife rfl (fun c1=>?_) (fun c1=>?_)
 ·have hf:l.filter (kpB z.o)=l:=hr.elim (fun h=>h.2) fun⟨i,h,_⟩=>by omega
  rw[hf];refine run ?_;exact J.finW rfl
 obtain⟨i,rfl,hi,hf⟩:∃i:Nat,r=(i:Nat)∧i<n∧(l.take (i+1)).filter (kpB z.o)=l.take i:=hr.resolve_left fun h=>c1 h.1;obtain⟨g,rfl⟩:=hO.some (by omega);refine run ?_;refine J.loop (A:=DlA) (fun p=>[(5, .int .i64 (p.i:Nat)),(6, .int .i64 (p.j:Nat))]) [7,16,17,18,19,20,21,22,23,24,25,26,27,28,29,30,31,32,33,34,35] (fun p=>[.gown idC 32 24 (some ⟨g,0,none⟩) n c p.l]) (fun p=>p.i<p.j∧p.j≤n∧p.l.length=n∧p.l.take p.i=(l.take p.j).filter (kpB z.o)∧p.l.drop p.j=l.drop p.j) (fun p=>n - p.j) ⟨i,i+1,l⟩ (by kernel_rfl) ⟨Nat.lt_succ_self _,hi,hlen,hf.symm,rfl⟩ (fun p j hI=>?_);obtain⟨h1,h2,h3,h4,h5⟩:=hI;refine run ?_;refine J.ifd rfl (fun c2=>?_) (fun c2=>?_)
 ·obtain⟨y,hy⟩:∃y,p.l[((p.j:Nat):Int).toNat]? =some y:=⟨_,List.getElem?_eq_getElem (by omega)⟩
  have hy':l[p.j]? =some y:=by
   have e:=congrArg (fun q:List IdV=>q[0]?) h5;simp only[List.getElem?_drop,Nat.add_zero]at e;rw[←e];rw[Int.toNat_natCast]at hy;exact hy
  have e:(l.take (p.j+1)).filter (kpB z.o)=p.l.take p.i++if kpB z.o y then [y]else []:=by
   rw[List.take_add_one,hy',Option.toList_some,List.filter_append,h4];cases h:kpB z.o y with
   |true=>rw[List.filter_cons_of_pos h];rfl
   |false=>rw[List.filter_cons_of_neg (by rw[h];decide)];rfl
  have ed:p.l.drop (p.j+1)=l.drop (p.j+1):=by
   have e:=congrArg (List.drop 1) h5;rwa[List.drop_drop,List.drop_drop]at e
  refine run ?_;refine J.ldGa (i:=((p.j:Nat):Int)) (sz:=32) (off:=0) rfl RG.own' ?_ (q:=y) (hf:=idC_all y) (hn:=idC_len y);refine run ?_;refine J.alloc rfl fun b4=>?_
  refine run ?_;refine J.callvp rfl rfl rfl (fun w' M=>shPut2 z y.xs b T w' (hB.pr M.pr hne) (D1.pr M.pr hS) (hA y (List.mem_of_getElem? hy')) hz) ?_;refine run ?_;refine J.ifnot rfl (fun c3=>?_) (fun c3=>?_)
  ·have c3:=of_decide_eq_false c3;refine run ?_;refine J.stG (f:=idC) (q:=y) rfl rfl rfl ?_ (hv:=ints_cellB _ _);refine run ?_;rw[Int.toNat_natCast];refine J.drop (E:=[.gown idC 32 24 (some ⟨g,0,none⟩) n c (p.l.set p.i y)]) sb ?_;refine J.next ⟨p.i+1,p.j+1,p.l.set p.i y⟩ ⟨rfl,rfl,trivial⟩ (by kernel_rfl) ⟨by dsimp only;omega,by dsimp only;omega,by dsimp only;rw[List.length_set];exact h3,?_,?_⟩ (by dsimp only;omega)
   ·dsimp only;rw[e,show kpB z.o y=true from decide_eq_true c3,if_pos rfl,List.take_add_one,List.getElem?_set,if_pos rfl,if_pos (by omega),Option.toList_some,List.take_set_of_le (Nat.le_refl _)]
   dsimp only;rw[List.drop_set_of_lt (by omega)];exact ed
  have c3:=of_decide_eq_true c3;refine run ?_;refine J.drop (E:=[.gown idC 32 24 (some ⟨g,0,none⟩) n c p.l]) sb ?_;refine J.next ⟨p.i,p.j+1,p.l⟩ ⟨rfl,rfl,trivial⟩ (by kernel_rfl) ⟨by dsimp only;omega,by dsimp only;omega,h3,?_,ed⟩ (by dsimp only;omega);dsimp only;rw[e,show kpB z.o y=false from decide_eq_false (not_not_intro c3)];simp
 obtain⟨pi,pj,pl⟩:=p;dsimp only at h1 h2 h3 h4 h5 c2⊢;obtain rfl:pj=n:=by omega
 rw[List.take_of_length_le (show l.length≤pj by omega)]at h4;have hfl:(l.filter (kpB z.o)).length=pi:=by rw[←h4,List.length_take];omega
 refine J.cur idC 32 24 g pj c pl fun cur hcur=>?_
 obtain⟨k1,k2,_,_,_⟩:=hcur;refine run ?_;refine J.clr (o:=pi*32) (q:=pj - pi) (show Value.slice (some ⟨g,0+((pi:Nat):Int).toNat*32,none⟩) (pj - ((pi:Nat):Int).toNat) (c - ((pi:Nat):Int).toNat)= .slice (some ⟨g,pi*32,none⟩) (pj - pi) (c - pi)from by rw[Int.toNat_natCast,Nat.zero_add]) (fun cs2 hcs2=>?_) (hfit:=by rw[k1];omega);obtain⟨k3,k4⟩:=hcs2;refine run ?_;refine J.ruc idC 32 24 g pi c (l.filter (kpB z.o)) idC_len (by rw[k3,k1]) (by rw[k4,←h4,←flat_take idC 32 idC_len,←k2,List.take_take,Nat.min_eq_left (by omega)]) (by omega) hcm hfl ?_;exact J.finW (a':=some ⟨g,0,none⟩) (n':=pi) (c':=c) (by exact sl3 rfl (by omega) rfl)
theorem shPut1{S0:Nat→Prop}(s:ShA)(x:List Int)(b:Nat)(T:TypeId)(w:World)(hB:Blk w b (shC s) T)(H:ShR S0 w s)(hx:Arr .u8 32 x)(hgp:S.goodPs s.V.ps)(h1:1≤s.pn):
  Calls prog 147 #[.agg (ints .u8 x).toArray, .pointer (some ⟨b,0,none⟩)] w (Ret w fun v _=>v= .bool (decide (¬S.inS (S.whole s.V.ps).m (S.whole s.V.ps).ids x))):=by
 have hll:s.V.ps.length=s.pn:=by rw[List.length_map,H.pr.len]
 obtain⟨r1,r2⟩:=S.res_lt (ps:=s.V.ps) (x:=x) (by omega);obtain⟨g,hg⟩:∃g,s.gs[S.resN s.V.ps x]? =some g:=⟨_,List.getElem?_eq_getElem (by rw[H.pr.len];omega)⟩
 have hgP:=shAt hg;have hin:=S.in_part (x:=x) hgp (by omega);rw[hgP]at hin;refine J.enter 14 func147 rfl rfl ?_;refine run ?_;refine J.box rfl rfl rfl fun b1=>?_
 refine run ?_;refine J.ldOA hB (fun h=>h) rfl ?_;refine run ?_;refine J.callp rfl rfl (fun w' M=>shFind s x g w' (H.ext M.ext) hx hgp h1 hg) ?_;refine run ?_;exact J.fin (congrArg _ (by simp[hin]))
theorem idxAbs{S0 S1:Nat→Prop}(s:ShA)(a:Option Addr)(n c:Nat)(ps:List Int)(b:Nat)(T:TypeId)(w:World)(hB:Blk w b (shC s) T)(H:ShR S0 w s)(D1:WRow .u8 32 S1 w a n ps)(hgp:S.goodPs s.V.ps)(h0:1≤s.pn)(hn:n≤1000):
  Calls prog 230 #[.slice a n c, .func (.func 147) #[] #[.pointer (some ⟨b,0,none⟩)]] w (Gv w (fun r:Int=> .int .i64 r) (fun _=>[]) fun r=>0≤r↔¬S.allI (S.whole s.V.ps).m (S.whole s.V.ps).ids n ps):=by
 have hl:=D1.len;refine J.enter 17 func230 rfl rfl ?_;refine run ?_;refine J.loopS (A:=Int) (fun p=>[(8, .int .i64 p)]) [4,5,9,10,11,12,13,14,15,16,17,18] (fun p=>(0≤p∧p≤n)∧∀i,i<p.toNat→S.inS (S.whole s.V.ps).m (S.whole s.V.ps).ids (S.idAt ps i)) (fun p=>n - p.toNat) 0 (by kernel_rfl) ⟨by omega,fun i hi=>by omega⟩ (fun p j hI=>?_);obtain⟨h1,hI⟩:=hI;refine run ?_;refine J.ifd rfl (fun c1=>?_) (fun c1=>?_)
 ·refine run ?_;refine J.callvp rfl rfl rfl (fun w' M=>shPut1 s _ b T w' (hB.ext M.ext) (H.ext M.ext) (D1.elt_arr (by omega)) hgp h0) ?_;refine run ?_;refine J.ifd rfl (fun c2=>?_) (fun c2=>?_)
  ·refine run ?_;exact J.finG p rfl ⟨fun _ h=>c2 (h p.toNat (by omega)),fun _=>by omega⟩ (List.nil_sublist _)
  refine run ?_;refine J.nextS (p+1) ⟨rfl,trivial⟩ (by kernel_rfl) ⟨by omega,fun i hi=>?_⟩ (by omega);rcases Nat.lt_or_ge i p.toNat with e|e
  ·exact hI i e
  obtain rfl:i=p.toNat:=by omega
  exact Classical.not_not.1 c2
 refine run ?_;exact J.finG (-1) rfl ⟨fun h=>by omega,fun h=>absurd (fun i hi=>hI i (by omega)) h⟩ (List.nil_sublist _)
theorem hasAbs{S0 S1:Nat→Prop}(s:ShA)(a:Option Addr)(n c:Nat)(ps:List Int)(b:Nat)(T:TypeId)(w:World)(hB:Blk w b (shC s) T)(H:ShR S0 w s)(D1:WRow .u8 32 S1 w a n ps)(hgp:S.goodPs s.V.ps)(h0:1≤s.pn)(hn:n≤1000):
  Calls prog 148 #[.slice a n c, .func (.func 147) #[] #[.pointer (some ⟨b,0,none⟩)]] w (Ret w fun v _=>v= .bool (decide (¬S.allI (S.whole s.V.ps).m (S.whole s.V.ps).ids n ps))):=by
 refine J.enter 7 func148 rfl rfl ?_;refine run ?_;refine J.call rfl rfl (fun w' M=>idxAbs s a n c ps b T w' (hB.ext M.ext) (H.ext M.ext) (D1.ext M.ext) hgp h0 hn) fun r hr2=>?_
 refine run ?_;exact J.fin (congrArg _ (decide_eq_decide.2 hr2))
end W
namespace W
open Go.RowKit G
theorem blk_e{S:Nat→Prop}{w:World}{b:Nat}{cs:List Value}{T:TypeId}(h:(Ent.blk b cs T).ok S w):S b∧Blk w b cs T:=h
section
variable{S0:Nat→Prop}{w0:World}{L:List Ent}{P:Program}{ops:Array Oper}{K:List Value→World→Prop}{rest:List (Oper×Kd)}{l l':List Value}{m:Md}{d:Tmp}{ty xt e:TypeId}{pos:String}{af:Array Edge}{kd:Kd}{x y:Operand}{nn:Nat}{ki:IntKind}{a:Option Addr}{k0 off i:Nat}
theorem J.ncP(hk:pureK kd=true)(ha:∃b o,a=some ⟨b,o,none⟩)(hx:ev l x=pt a k0)(k:J S0 w0 L (RY S0 w0 m P ops K rest l'))(hl:l.set d (pt a k0)=l':=by dsimp only[List.set]):
  J S0 w0 L (RY S0 w0 m P ops K ((⟨some d, .nilCheck x,ty,pos,af,none⟩,kd)::rest) l):=by
 obtain⟨b,o,rfl⟩:=ha;exact J.nc (a:=⟨b,o+k0,none⟩) hk hx k hl
theorem J.flP[F:Fld P xt i off](hk:pureK kd=true)(ha:∃b o,a=some ⟨b,o,none⟩)(hx:ev l x=pt a k0)(k:J S0 w0 L (RY S0 w0 m P ops K rest l'))(hl:l.set d (pt a (k0+off))=l':=by dsimp only[List.set]):
  J S0 w0 L (RY S0 w0 m P ops K ((⟨some d, .fieldAddr xt x i,ty,pos,af,none⟩,kd)::rest) l):=by
 obtain⟨b,o,rfl⟩:=ha;exact J.fl (b:=b) (o:=o+k0) (ad:=o+(k0+off)) hk hx k (Nat.add_assoc _ _ _) hl
theorem J.ixN(j:Nat)[U:Und P xt (.array nn e)][Z:Siz P e 1](hk:pureK kd=true)(ha:∃b o,a=some ⟨b,o,none⟩)(hx:ev l x=pt a k0)(hy:ev l y= .int ki (j:Nat))(kk:J S0 w0 L (RY S0 w0 m P ops K rest l'))(hn:j<nn:=by decide)(hl:l.set d (pt a (k0+j))=l':=by dsimp only[List.set]):
  J S0 w0 L (RY S0 w0 m P ops K ((⟨some d, .indexAddr xt x y,ty,pos,af,none⟩,kd)::rest) l):=
 J.pur hk (fun w => by
  obtain ⟨b, o, rfl⟩ := ha
  have := D.indexArr (P := P) (d := some d) (ty := ty) (pos := pos) (af := af) (g := none) (w := w) (i := ((j : Nat) : Int)) (hx.trans (pt_some rfl k0)) hy U.h Z.h (by decide) (by omega)
  rw [Int.toNat_natCast, Nat.mul_one, Nat.add_assoc] at this
  exact this) kk hl
end
theorem idC_at(x:IdV){j:Nat}(h:j<32):(idC x).getD j undef= .int .u8 (x.xs.getD j 0):=ints_getD _ _ _ (by rw[x.h];exact h)
def idUp(j:Nat)(x:IdV):IdV:=⟨x.xs.set j ((x.xs.getD j 0+1) % 256),by rw[List.length_set,x.h]⟩
theorem idUp_eq(j:Nat)(x:IdV):idC (idUp j x)=(idC x).set j (.int .u8 ((x.xs.getD j 0+1) % 256)):=(ints_set _ _ _ _).symm
theorem up_bd{l:List IdV}(h:Bd .u8 (flatI l)){i:Nat}(j:Nat){x:IdV}(hx:l[i]? =some x):Bd .u8 (flatI (l.set i (idUp j x))):=fun y hy=>by
 unfold flatI at hy;obtain⟨u,hu,hyu⟩:=List.mem_flatMap.1 hy;have old:∀v∈l,y∈v.xs→y∈flatI l:=fun v hv hm=>by
  unfold flatI;exact List.mem_flatMap.2 ⟨v,hv,hm⟩
 rcases List.mem_or_eq_of_mem_set hu with k|rfl
 ·exact h y (old u k hyu)
 ·rcases List.mem_or_eq_of_mem_set hyu with k|rfl
  ·exact h y (old x (List.mem_of_getElem? hx) k)
  ·simp only[lim];omega
end W
namespace G
open Go.RowKit
section
variable{S0:Nat→Prop}{w0:World}{L Lq:List Ent}{bg fl:List Nat}{P:Program}{Q:Exit→Act→World→Prop}{l:List Value}{id n n':Nat}{l0:List Oper}{K:List Value→World→Prop}{li:Array Bool}{rd:List Nat}{ops:Array Oper}
theorem J.gnodeC{pl':List (Oper×Kd)}(pl:List (Nat×Kd))(rd:List Nat)(n':Nat)(li':Array Bool)
  (hB:(Region.noSelect l0.toArray&&(bgB l0.toArray bg fl&&(((G.bigs pl).all (fun i=>bg.contains i)&&(G.frees pl).all (fun i=>fl.contains i))&&(Nat.beq (n'+1+pl.length) n&&(!rd.isEmpty&&planB l0.toArray fl (fun s=>(Region.ready .any l0.toArray s==rd)&&(s.toList==li'.toList&&rd.all fun i=> !bg.any (Nat.beq i))) pl li)))))=true)
  (h:J S0 w0 L (RY S0 w0 (.r Lq) P l0.toArray (BG S0 w0 Lq bg fl P l0 K n' li' rd) pl' l))(hs:Lq.Sublist L:=by repeat(first|exact List.Sublist.refl _|refine List.Sublist.cons_cons _ ?_|refine List.Sublist.cons _ ?_))(hp:pick l0 pl=pl':=by dsimp only[pick,nth]):J S0 w0 L (WG S0 w0 Lq bg fl P l0 K n li l):=fun w M hcl=>by
 simp only[Bool.and_eq_true]at hB;obtain⟨hns,hbg,⟨hg,hf⟩,hz,hr0,hB⟩:=hB;have hz:=Nat.eq_of_beq_eq_true hz;subst hz;subst hp;have h1:RX P l0.toArray (MR S0 w0 Lq) (BG S0 w0 Lq bg fl P l0 K n' li' rd) (pick l0 pl) l w:=h w M (M.sub hs);rw[List.all_eq_true]at hg hf;refine rx_list (n:=n'+1) (bg:=bg) (fl:=fl) ?_ (fun _ h=>h) (fun h k x=>k (h x)) hns (bgB_spec hbg) pl li l w hcl (fun i hi=>by simpa using hg i ((mem_bigs pl i).1 hi)) (fun i hi=>by simpa using hf i (mem_frees pl i hi)) hB h1;intro listed l w hcl he hk;simp only[Bool.and_eq_true,beq_iff_eq]at he;obtain⟨hr,hl,_⟩:=he;obtain rfl:listed=li':=Array.ext' hl;refine⟨fun h0=>by rw[h0]at hr;subst hr;simp at hr0,fun k hm=>?_⟩;have hk2:=BG.get hk (hr▸hm);have hlt:k<l0.length:=by
  obtain⟨_,o,ho,_⟩:=mem_ready.1 hm;simpa using(Array.getElem?_eq_some_iff.1 ho).1
 have hi:l0.toArray[k]? =some (nth l0 k):=by simpa using nth_get l0 k hlt
 unfold xOp;simp only[hi];simp only[RX]at hk2;split
 ·rename_i hw;rw[if_pos (by exact hw)]at hk2;unfold Oper.wp at*;refine upon_mono ?_ (fun _ _ _ h=>h) hk2;rintro a w' ⟨l',rfl,hR,h⟩;exact⟨fun _=>hR,h (hcl.set hm)⟩
 ·rename_i hw;rw[if_neg (by exact hw)]at hk2;rw[put_fr];exact⟨fun _=>fun h=>h,hk2 (hcl.set hm)⟩
end
end G
end Go.Proofs.YtkibkhgcbepolaaGreatDoor
