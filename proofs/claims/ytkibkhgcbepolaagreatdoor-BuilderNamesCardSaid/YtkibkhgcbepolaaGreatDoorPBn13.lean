/-
  Part 13 of the lemmas of these laws: BuilderNames.
-/
import Derived.Test.YtkibkhgcbepolaaGreatDoorPBn12
set_option linter.unusedVariables false
set_option linter.unusedSimpArgs false
open Go.Proofs.Tryz
namespace Go.Proofs.YtkibkhgcbepolaaGreatDoor
namespace S
open G
def atS(m:Nat)(ids x:List Int):Int:=if inS m ids x then(ixS m ids x:Nat)else -1
theorem at_hit{m:Nat}{ids x:List Int}{i:Nat}(hi:i<m)(e:idAt ids i=x)(hf:∀j,j<i→idAt ids j≠x):(i:Int)=atS m ids x:=by
 unfold atS;rw[if_pos ⟨i,hi,e⟩,ix_first hi e hf]
theorem at_miss{m:Nat}{ids x:List Int}(hf:∀j,j<m→idAt ids j≠x):(-1:Int)=atS m ids x:=by
 unfold atS;rw[if_neg];rintro⟨i,hi,e⟩;exact hf i hi e
theorem at_neg{m:Nat}{ids x:List Int}:atS m ids x<0↔¬inS m ids x:=by
 unfold atS;by_cases h:inS m ids x
 ·rw[if_pos h];exact⟨fun h1=>by omega,fun h1=>absurd h h1⟩
 ·rw[if_neg h];exact⟨fun _=>h,fun _=>by decide⟩
structure HvS(ids:List Int)(rd:List Nat)(hv:List Int):Prop where
 len:hv.length=32*rd.length
 at_:∀k,k<rd.length→idAt hv k=idAt ids (rd.getD k 0)
theorem HvS.first(ids:List Int):HvS ids [] []:=⟨rfl,fun k hk=>by cases hk⟩
theorem HvS.snoc{ids hv:List Int}{rd:List Nat}{i m:Nat}(h:HvS ids rd hv)(hl:ids.length=32*m)(hi:i<m):HvS ids (rd++[i]) (hv++idAt ids i):=by
 have h32:=idAt_len ids i m hl hi;refine⟨by rw[List.length_append,List.length_append,h.len,h32,List.length_singleton];omega,fun k hk=>?_⟩;rw[List.length_append,List.length_singleton]at hk;rw[getD_snoc];by_cases e:k<rd.length
 ·rw[if_pos e,←h.at_ k e];unfold idAt;rw[List.drop_append_of_le_length (by rw[h.len];omega),List.take_append_of_le_length (by rw[List.length_drop,h.len];omega)]
 ·obtain rfl:k=rd.length:=by omega
  rw[if_neg e,if_pos rfl];have:(hv++idAt ids i).drop (32*rd.length)=idAt ids i:=by rw[←h.len];exact List.drop_left
  show((hv++idAt ids i).drop (32*rd.length)).take 32=_;rw[this,List.take_of_length_le (by omega)]
theorem HvS.all{m:Nat}{ids hv:List Int}{ops:List OpV}{rd:List Nat}(h:HvS ids rd hv)(hr:Rising m ids)(hb:∀x∈rd,x<m){i:Nat}(ho:allI m ids (ops.getD i OpV.zero).n (ops.getD i OpV.zero).ids):
  allI rd.length hv (ops.getD i OpV.zero).n (ops.getD i OpV.zero).ids↔∀p∈prS m ids ops i,p∈rd:=by
 constructor
 ·intro ha p hp;unfold prS at hp;obtain⟨j,hj,rfl⟩:=List.mem_map.1 hp;obtain⟨k,hk,e⟩:=ha j (List.mem_range.1 hj);rw[h.at_ k hk]at e;have hm:=getD_mem hk;rw[←e,ix_eq hr (hb _ hm)];exact hm
 ·intro ha j hj;have hp:ixS m ids (idAt (ops.getD i OpV.zero).ids j)∈rd:=ha _ (by unfold prS;exact List.mem_map.2 ⟨j,List.mem_range.2 hj,rfl⟩);obtain⟨k,hk,e⟩:=List.getElem_of_mem hp;refine⟨k,hk,?_⟩;rw[h.at_ k hk,List.getD_eq_getElem?_getD,List.getElem?_eq_getElem hk,Option.getD_some,e];exact(ix_in (ho j hj)).2
def dnS(n:Nat)(rd:List Nat):List Bool:=(List.range n).map fun i=>decide (i∈rd)
theorem dnS_first(n:Nat):dnS n []=List.replicate n false:=by
 unfold dnS;apply List.ext_getElem
 ·simp
 ·intro i h1 h2;simp
theorem dnS_get{n i:Nat}(rd:List Nat)(h:i<n):(dnS n rd)[i]? =some (decide (i∈rd)):=by
 unfold dnS;rw[List.getElem?_map,List.getElem?_range h];rfl
theorem dnS_snoc{n i:Nat}(rd:List Nat)(h:i<n):(dnS n rd).set i true=dnS n (rd++[i]):=by
 apply List.ext_getElem?;intro j;rw[List.getElem?_set];by_cases hj:j<n
 ·rw[dnS_get _ hj,dnS_get _ hj];by_cases e:i=j
  ·subst e;rw[if_pos rfl,if_pos (by simpa [dnS]using hj)];simp
  ·rw[if_neg e];congr 1;rw[decide_eq_decide,List.mem_append,List.mem_singleton];exact⟨.inl,fun h=>h.resolve_right fun e2=>e e2.symm⟩
 ·rw[List.getElem?_eq_none (by simpa [dnS]using hj),List.getElem?_eq_none (by simpa [dnS]using hj)];split
  ·split<;>simp_all
  ·rfl
structure OrdS(P:Nat→List Nat)(n:Nat)(rd:List Nat):Prop where
 nd:rd.Nodup
 lt:∀x∈rd,x<n
 sq:Seqd P rd
theorem OrdS.first(P:Nat→List Nat)(n:Nat):OrdS P n []:=⟨List.nodup_nil,fun x h=>(by cases h),fun i h=>(by cases h)⟩
theorem OrdS.le{P:Nat→List Nat}{n:Nat}{rd:List Nat}(h:OrdS P n rd):rd.length≤n:=by
 have:=nodup_len (l:=rd) (m:=List.range n) h.nd fun x hx=>List.mem_range.2 (h.lt x hx);simpa using this
theorem OrdS.snoc{P:Nat→List Nat}{n i:Nat}{rd:List Nat}(h:OrdS P n rd)(hi:i<n)(hn:i∉rd)(hp:∀p∈P i,p∈rd):OrdS P n (rd++[i]):=by
 refine⟨List.nodup_append.2 ⟨h.nd,by simp,fun a ha b hb=>?_⟩,fun x hx=>?_,h.sq.snoc (d:=rd.length) fun p hp'=>by rw[List.take_length];exact hp p hp'⟩
 ·rw[List.mem_singleton]at hb;subst hb;intro e;subst e;exact hn ha
 ·rcases List.mem_append.1 hx with e|e
  ·exact h.lt x e
  ·rw[List.mem_singleton]at e;subst e;exact hi
theorem OrdS.found{P:Nat→List Nat}{n:Nat}{rd:List Nat}(h:OrdS P n rd)(hc:Clsd P n rd):Found P n↔¬rd.length<n:=found_iff h.nd h.lt h.sq hc
theorem OrdS.room{P:Nat→List Nat}{n i:Nat}{rd:List Nat}(h:OrdS P n rd)(hi:i<n)(hn:i∉rd):rd.length<n:=by
 have:=nodup_len (l:=i::rd) (m:=List.range n) (List.nodup_cons.2 ⟨hn,h.nd⟩) fun x hx=>by
  rcases List.mem_cons.1 hx with e|e
  ·subst e;exact List.mem_range.2 hi
  ·exact List.mem_range.2 (h.lt x e)
 simp only[List.length_cons,List.length_range]at this;omega
end S
namespace W
open Go.RowKit G
set_option maxRecDepth 20000
set_option maxHeartbeats 8000000
attribute [local irreducible] RS RX RY Code.wp bodyPost J Ent.blk Ent.irow Ent.iown Ent.wrow Ent.wown Ent.gown Ent.all Ent.emp
instance:Ents prog 33:=⟨.mk func33 (by kernel_rfl) rfl⟩
instance:Und prog 241 (.slice 4):=⟨underlying241⟩
instance:Inf prog 4 1 1 [.bool false]:=⟨TI.of (v:= .bool false) (by kernel_rfl) rfl⟩
instance:Siz prog 4 1:=⟨by kernel_rfl⟩
instance:Sca prog 4:=⟨_,underlying4,rfl⟩
instance:Ents prog 110:=⟨.mk func110 (by kernel_rfl) rfl⟩
instance:Ents prog 26:=⟨.mk func26 (by kernel_rfl) rfl⟩
instance:Ents prog 184:=⟨.mk func184 (by kernel_rfl) rfl⟩
instance:Ents prog 29:=⟨.mk func29 (by kernel_rfl) rfl⟩
instance:Ents prog 30:=⟨.mk func30 (by kernel_rfl) rfl⟩
instance:Ents prog 94:=⟨.mk func94 (by kernel_rfl) rfl⟩
structure OrP where
 (rd:List Nat)(n:Nat)(od hv:List Int)(dn:List Bool)(ao:Option Addr)(co:Nat)(ah:Option Addr)(ch:Nat)(more:Bool)
theorem refAt{S0:Nat→Prop}(a:Option Addr)(n c:Nat)(ids x:List Int)(w:World)(D0:WRow .u8 32 S0 w a n ids)(hx:Arr .u8 32 x)(hn:n≤1000):
  Calls prog 33 #[.slice a n c, .agg (ints .u8 x).toArray] w (Ret w fun v _=>v= .int .i64 (S.atS n ids x)):=by
 refine J.enter 17 func33 rfl rfl ?_;refine run ?_;refine J.box rfl rfl rfl fun b1=>?_
 refine run ?_;refine J.loopS (A:=Int) (fun p=>[(5, .int .i64 p)]) [6,7,8,9,10,11,12,13,14,15,16,17,18] (fun p=>(0≤p∧p≤n)∧∀k,k<p.toNat→S.idAt ids k≠x) (fun p=>n - p.toNat) 0 (by kernel_rfl) ⟨by omega,fun k hk=>by omega⟩ (fun p j hI=>?_);obtain⟨h1,hI⟩:=hI;refine run ?_;refine J.ifd rfl (fun c1=>?_) (fun c1=>?_)
 ·obtain⟨q,hq⟩:=ex (elt 32 ids p.toNat);have hqa:Arr .u8 32 q:=hq▸D0.elt_arr (by omega);refine run ?_;refine J.regionX [(0, .q),(1, .q),(2, .q),(3, .q),(4, .q),(5, .q)] mixed (by kernel_rfl) ?_;refine run ?_;refine J.ifd rfl (fun c2=>?_) (fun c2=>?_)
  ·refine run ?_;refine J.fin ?_;rw[←S.at_hit (i:=p.toNat) (by omega) (by rw[←c2];exact hq.symm) hI];congr 1;omega
  refine run ?_;refine J.nextS (p+1) ⟨rfl,trivial⟩ (by kernel_rfl) ⟨by omega,fun k hk=>?_⟩ (by omega);rcases Nat.lt_or_ge k p.toNat with h|h
  ·exact hI k h
  obtain rfl:k=p.toNat:=by omega
  exact fun e=>c2 (hq.trans e)
 refine run ?_;refine J.fin ?_;rw[←S.at_miss fun k hk=>hI k (by omega)]
theorem refAll{S0 S1:Nat→Prop}(a a2:Option Addr)(n c n2 c2:Nat)(ids ps:List Int)(w:World)(D0:WRow .u8 32 S0 w a n ids)(D1:WRow .u8 32 S1 w a2 n2 ps)(hn:n≤1000)(hn2:n2≤1000):
  Calls prog 110 #[.slice a n c, .slice a2 n2 c2] w (Ret w fun v _=>v= .bool (decide (S.allI n ids n2 ps))):=by
 refine J.enter 17 func110 rfl rfl ?_;refine run ?_;refine J.loopS (A:=Int) (fun p=>[(5, .int .i64 p)]) [6,7,8,9,10,11,12,13,14,15,16,17,18] (fun p=>(0≤p∧p≤n2)∧∀k,k<p.toNat→S.inS n ids (S.idAt ps k)) (fun p=>n2 - p.toNat) 0 (by kernel_rfl) ⟨by omega,fun k hk=>by omega⟩ (fun p j hI=>?_);obtain⟨h1,hI⟩:=hI;refine run ?_;refine J.ifd rfl (fun c1=>?_) (fun c1=>?_)
 ·refine run ?_;refine J.callp rfl rfl (fun w' M=>refAt _ _ _ _ _ _ (D0.ext M.ext) (D1.elt_arr (by omega)) hn) ?_;refine run ?_;refine J.ifd rfl (fun c2=>?_) (fun c2=>?_)
  ·refine run ?_;exact J.fin (congrArg _ (decide_eq_false fun h=>S.at_neg.1 c2 (h _ (by omega))).symm)
  refine run ?_;refine J.nextS (p+1) ⟨rfl,trivial⟩ (by kernel_rfl) ⟨by omega,fun k hk=>?_⟩ (by omega);rcases Nat.lt_or_ge k p.toNat with h|h
  ·exact hI k h
  obtain rfl:k=p.toNat:=by omega
  exact Decidable.not_not.1 fun h=>c2 (S.at_neg.2 h)
 refine run ?_;exact J.fin (congrArg _ (decide_eq_true fun k hk=>hI k (by omega)).symm)
theorem refOrderL{S0:Nat→Prop}(g:GrA)(w:World)(G:GrR S0 w g)(he:g.m=g.n)(hr:S.Rising g.m g.ids)(ho:S.opensS g.m g.ids g.ops):
  Calls prog 184 #[.agg (grC g).toArray] w (Gv w (fun q:(Option Addr×Nat×Nat)×List Nat=> .slice q.1.1 q.1.2.1 q.1.2.2) (fun q=>[.iown 3 .i64 q.1.1 q.1.2.1 q.1.2.2 (S.castL q.2)]) fun q=>q.1.2.1=q.2.length∧S.OrdS (S.prS g.m g.ids g.ops) g.n q.2∧S.Clsd (S.prS g.m g.ids g.ops) g.n q.2):=by
 have D0:=G.ids;have G0:=G.ops;have hl:=G.len;have hcp:=G.cap;have hcp4:=hcp.2.2.2;obtain⟨P,hP⟩:=ex (S.prS g.m g.ids g.ops);refine J.enter 50 func184 rfl rfl ?_;refine run ?_;refine J.box rfl rfl rfl fun b1=>?_
 refine run ?_;refine J.mkG boC false (fun _=>rfl) rfl rfl rfl rfl fun bd=>?_
 rw[←S.dnS_first];refine run ?_;refine J.nilI 3 .i64 ?_;refine J.nilWo 24 .u8 32 ?_;refine J.loop (A:=OrP) (fun p=>[(3, .slice p.ao p.n p.co),(4, .slice p.ah p.n p.ch),(6, .bool p.more)]) [7,12,13,14,15,16,17,18,19,20,21,22,23,24,25,26,27,28,29,30,31,32,33,34,35,36,37,38,39,40,41,42,43,44,45,46,47,48,49] (fun p=>[.wown 24 .u8 32 p.ah p.n p.ch p.hv, .iown 3 .i64 p.ao p.n p.co p.od, .gown boC 1 4 (some ⟨bd,0,none⟩) g.n g.n p.dn, .blk b1 (grC g) 43])
  (fun p=>S.OrdS P g.n p.rd∧S.HvS g.ids p.rd p.hv∧(p.more=false→S.Clsd P g.n p.rd)∧p.n=p.rd.length∧p.od=S.castL p.rd∧p.dn=S.dnS g.n p.rd) (fun p=>2*(g.n - p.rd.length)+p.more.toNat) ⟨[],0,[],[],S.dnS g.n [],none,0,none,0,true⟩ (by kernel_rfl) ⟨S.OrdS.first _ _,S.HvS.first _,fun h=>(by cases h),rfl,rfl,rfl⟩ (fun p j hI=>?_)
 obtain⟨hO,hH,hC,hn,hod,hd⟩:=hI;have hle:=hO.le;refine run ?_;refine J.ifb rfl (fun c1=>?_) (fun c1=>?_)
 ·refine run ?_;refine J.loopS (A:=Int) (fun p=>[(7, .int .i64 p)]) [13,14,15,16,17,18,19,20,21,22,23,24,25,26,27,28,29,30,31,32,33,34,35,36,37,38,39,40,41,42,43,44,45,46,47,48,49] (fun i=>(0≤i∧i≤g.n)∧∀k,k<i.toNat→k∉p.rd→¬∀q∈P k,q∈p.rd) (fun i=>g.n - i.toNat) 0 (by kernel_rfl) ⟨by omega,fun k hk=>by omega⟩ (fun i j2 hI2=>?_);obtain⟨h1,h2⟩:=hI2;refine run ?_;refine J.ifd rfl (fun c2=>?_) (fun c2=>?_)
  ·obtain⟨z,hz⟩:=G0.ex (i:=i) (by omega);have R:=G.op hz;have hzo:=GrA.opAt hz;have h20:=R.ok.n;have hdn:=S.dnS_get p.rd (show i.toNat<g.n by omega);rw[←hd]at hdn;have hall:=hH.all (ops:=g.ops) (i:=i.toNat) hr (fun x hx=>by have:=hO.lt x hx;omega) (ho i.toNat (by omega));rw[hzo,←hP,←hn]at hall
   have hnext : (i.toNat ∉ p.rd → ¬ ∀ q ∈ P i.toNat, q ∈ p.rd) → ((0 ≤ i + 1 ∧ i + 1 ≤ (g.n : Int)) ∧ ∀ k, k < (i + 1).toNat → k ∉ p.rd → ¬ ∀ q ∈ P k, q ∈ p.rd) := fun hk => ⟨by omega, fun k hk2 => by
    rcases Nat.lt_or_ge k i.toNat with h | h
    ·exact h2 k h
    obtain rfl : k = i.toNat := by omega
    exact hk⟩
   refine run ?_;refine J.spt rfl rfl rfl (fun c3=>?_) (fun c3=>?_)
   ·have hni:=of_decide_eq_false c3;refine run ?_;refine J.callp rfl rfl (fun w' M=>(RW.own' w' M).elim fun _ h=>refAll _ _ _ _ _ _ _ _ _ h (R.row.ext M.ext) (by omega) (by omega)) ?_;refine run ?_;refine J.ifd rfl (fun c4=>?_) (fun c4=>?_)
    ·have hp:=hall.1 c4;have hO':=hO.snoc (show i.toNat<g.n by omega) hni hp;have hH':=hH.snoc (i:=i.toNat) D0.len (by omega);have hroom:=hO.room (show i.toNat<g.n by omega) hni;have hx:Arr .u8 32 (elt 32 g.ids i.toNat):=D0.elt_arr (by omega);have ei:i=(i.toNat:Nat):=by omega
     have hI':∀b:Bool,b=true→S.OrdS P g.n (p.rd++[i.toNat])∧S.HvS g.ids (p.rd++[i.toNat]) (p.hv++elt 32 g.ids i.toNat)∧(b=false→S.Clsd P g.n (p.rd++[i.toNat]))∧p.n+1=(p.rd++[i.toNat]).length∧p.od++[i]=S.castL (p.rd++[i.toNat])∧p.dn.set i.toNat true=S.dnS g.n (p.rd++[i.toNat]):=
      fun b hb=>⟨hO',hH',fun h=>(by rw[hb]at h;cases h),by simp[hn],by rw[S.castL_snoc,←ei,hod],by rw[hd];exact S.dnS_snoc _ (by omega)⟩
     refine run ?_;refine J.regionT [.blk b1 (grC g) 43] (.br [(0, .q),(1, .q),(2, .q),(3, .q),(6, .q),(7, .q),(8, .q),(9, .q),(10, .q),(11, .q)] 4 (.br [] 5 (.fin [(12, .e),(13, .e),(14, .q),(15, .q),(16, .q),(17, .e),(18, .q)]) 12 (.fin [(5, .e),(13, .e),(14, .q),(15, .q),(16, .q),(17, .e),(18, .q)])) 12 (.fin [(4, .e),(5, .e),(13, .e),(14, .q),(15, .q),(16, .q),(17, .e),(18, .q)])) mixed (by kernel_rfl) (by repeat(first|exact List.Sublist.refl _|refine List.Sublist.cons_cons _ ?_|refine List.Sublist.cons _ ?_)) ?_;refine run ?_;refine J.nil (J.kt ?_ ?_)
     ·refine J.b1 rfl rfl fun ba=>?_
      refine J.nil (J.kr (J.tbr (J.nil (J.kt ?_ ?_))))
      ·refine J.apI rfl rfl RI.own' fun ao co=>?_
       refine run ?_;refine J.b1W rfl rfl hx fun bb=>?_
       refine J.apW rfl rfl RW.own' fun ah ch=>?_
       refine run ?_;refine J.stG1 rfl rfl (q:=true) rfl ?_;refine run ?_;exact J.next ⟨p.rd++[i.toNat],p.n+1,p.od++[i],p.hv++elt 32 g.ids i.toNat,p.dn.set i.toNat true,ao,co,ah,ch,true⟩ ⟨rfl,rfl,rfl,trivial⟩ (by kernel_rfl) (hI' true rfl) (by dsimp only;rw[List.length_append,List.length_singleton];cases p.more<;>simp<;>omega)
      refine J.b1W rfl rfl hx fun bb=>?_
      refine run ?_;refine J.apI rfl rfl RI.own' fun ao co=>?_
      refine J.apW rfl rfl RW.own' fun ah ch=>?_
      refine run ?_;refine J.stG1 rfl rfl (q:=true) rfl ?_;refine run ?_;exact J.next ⟨p.rd++[i.toNat],p.n+1,p.od++[i],p.hv++elt 32 g.ids i.toNat,p.dn.set i.toNat true,ao,co,ah,ch,true⟩ ⟨rfl,rfl,rfl,trivial⟩ (by kernel_rfl) (hI' true rfl) (by dsimp only;rw[List.length_append,List.length_singleton];cases p.more<;>simp<;>omega)
     refine J.b1W rfl rfl hx fun bb=>?_
     refine run ?_;refine J.b1 rfl rfl fun ba=>?_
     refine J.apI rfl rfl RI.own' fun ao co=>?_
     refine J.apW rfl rfl RW.own' fun ah ch=>?_
     refine run ?_;refine J.stG1 rfl rfl (q:=true) rfl ?_;refine run ?_;exact J.next ⟨p.rd++[i.toNat],p.n+1,p.od++[i],p.hv++elt 32 g.ids i.toNat,p.dn.set i.toNat true,ao,co,ah,ch,true⟩ ⟨rfl,rfl,rfl,trivial⟩ (by kernel_rfl) (hI' true rfl) (by dsimp only;rw[List.length_append,List.length_singleton];cases p.more<;>simp<;>omega)
    refine run ?_;exact J.nextS (i+1) ⟨rfl,trivial⟩ (by kernel_rfl) (hnext fun _ h=>c4 (hall.2 h)) (by omega)
   refine run ?_;exact J.nextS (i+1) ⟨rfl,trivial⟩ (by kernel_rfl) (hnext fun h=>absurd (of_decide_eq_true c3) h) (by omega)
  refine run ?_;exact J.next ⟨p.rd,p.n,p.od,p.hv,p.dn,p.ao,p.co,p.ah,p.ch,false⟩ ⟨rfl,rfl,rfl,trivial⟩ (by kernel_rfl) ⟨hO,hH,fun _ k hk hq=>Decidable.not_not.1 (fun hn=>h2 k (by omega) hn hq),hn,hod,hd⟩ (by dsimp only;rw[c1];exact Nat.lt_succ_self _)
 refine run ?_;refine J.re (.iown 3 .i64 p.ao p.n p.co p.od) (.iown 3 .i64 p.ao p.n p.co (S.castL p.rd)) (fun _ _ h=>by rw[←hod];exact h) ?_;exact J.finG ((p.ao,p.n,p.co),p.rd) rfl ⟨hn,by rw[←hP];exact hO,by rw[←hP];exact hC c1⟩ sb
theorem refOrder{S0:Nat→Prop}(g:GrA)(w:World)(G:GrR S0 w g)(he:g.m=g.n)(hr:S.Rising g.m g.ids)(ho:S.opensS g.m g.ids g.ops):
  Calls prog 184 #[.agg (grC g).toArray] w (Gv w (fun q:Option Addr×Nat×Nat=> .slice q.1 q.2.1 q.2.2) (fun _=>[]) fun q=>q.2.1≤70∧(S.Found (S.prS g.m g.ids g.ops) g.n↔¬q.2.1<g.n)):=
 (refOrderL g w G he hr ho).mono fun _ _ ⟨q,h1,⟨k1,k2,k3⟩,h3,_⟩=>⟨q.1,h1,⟨by have:=k2.le;have:=G.cap.2.2.2;omega,by rw[k1];exact k2.found k3⟩,h3,trivial⟩
theorem refShape{S0:Nat→Prop}(g:GrA)(w:World)(G:GrR S0 w g)(he:g.m=g.n):
  Calls prog 94 #[.agg (grC g).toArray] w (Ret w fun v _=>v= .int .i64 (S.shapeS g.m g.ids g.ops)):=by
 have D0:=G.ids;have G0:=G.ops;have hl:=G.len;have hcp:=G.cap;refine J.enter 31 func94 rfl rfl ?_;refine run ?_;refine J.box rfl rfl rfl fun b1=>?_
 refine run ?_;refine J.callp rfl rfl (fun w' M=>risingR _ _ _ _ _ (D0.ext M.ext) hcp.1 (by omega)) ?_;refine run ?_;refine J.ifnot rfl (fun c1=>?_) (fun c1=>?_)
 ·refine run ?_;refine J.fin ?_;unfold S.shapeS;rw[if_pos (of_decide_eq_false c1)]
 have hr:=of_decide_eq_true c1;refine run ?_;refine J.loopS (A:=Int) (fun p=>[(3, .int .i64 p)]) [8,9,10,11,12,13,14,15,16,17,18,19,20,21,22,23,24] (fun p=>(0≤p∧p≤g.n)∧∀k,k<p.toNat→S.allI g.m g.ids (g.ops.getD k S.OpV.zero).n (g.ops.getD k S.OpV.zero).ids) (fun p=>g.n - p.toNat) 0 (by kernel_rfl) ⟨by omega,fun k hk=>by omega⟩ (fun p j hI=>?_);obtain⟨h1,hI⟩:=hI;refine run ?_;refine J.ifd rfl (fun c2=>?_) (fun c2=>?_)
 ·obtain⟨z,hz⟩:=G0.ex (i:=p) (by omega);have R:=G.op hz;have hzo:=GrA.opAt hz;have h20:=R.ok.n;refine run ?_;refine J.regionX [(0, .q),(1, .q),(2, .q),(3, .q),(4, .q),(5, .q),(6, .q),(7, .q),(8, .e),(9, .q)] mixed (by kernel_rfl) ?_;refine run ?_;refine J.callp rfl rfl (fun w' M=>refAll _ _ _ _ _ _ _ _ _ (D0.ext M.ext) (R.row.ext M.ext) (by omega) (by omega)) ?_;refine run ?_;refine J.ifnot rfl (fun c3=>?_) (fun c3=>?_)
  ·refine run ?_;refine J.fin ?_;unfold S.shapeS;rw[if_neg (not_not_intro hr),if_pos fun ho=>of_decide_eq_false c3 ?_];rw[←hzo];exact ho p.toNat (by omega)
  refine run ?_;refine J.nextS (p+1) ⟨rfl,trivial⟩ (by kernel_rfl) ⟨by omega,fun k hk=>?_⟩ (by omega);rcases Nat.lt_or_ge k p.toNat with h|h
  ·exact hI k h
  obtain rfl:k=p.toNat:=by omega
  rw[hzo];exact of_decide_eq_true c3
 have ho:S.opensS g.m g.ids g.ops:=fun k hk=>hI k (by omega);refine run ?_;refine J.regionX [(0, .q),(3, .q),(4, .q),(5, .q),(1, .e),(2, .q),(6, .q)] mixed (by kernel_rfl) ?_;refine run ?_;refine J.call rfl rfl (fun w' M=>refOrder g w' (G.ext M.ext) he hr ho) fun q hq=>?_
 obtain⟨hq1,hq2⟩:=hq;rw[←hl]at hq2;have hs:=S.shape_end hr ho hq2;refine run ?_;refine J.ifd rfl (fun c3=>?_) (fun c3=>?_)
 ·refine run ?_;refine J.fin ?_;rw[hs,if_pos (by omega)]
 refine run ?_;refine J.fin ?_;rw[hs,if_neg (by omega)]
theorem refCheck{S0:Nat→Prop}(g:GrA)(w:World)(G:GrR S0 w g):
  Calls prog 202 #[.agg (grC g).toArray] w (Ret w fun v _=>v= .int .i64 (S.chkG g.m g.ids g.ops)):=by
 have D0:=G.ids;have G0:=G.ops;have hl:=G.len;have hcp:=G.cap;refine J.enter 44 func202 rfl rfl ?_;refine run ?_;refine J.box rfl rfl rfl fun b1=>?_
 refine run ?_;refine J.ifd rfl (fun c=>?_) (fun c=>?_)
 ·refine run ?_;refine J.fin ?_;unfold S.chkG;rw[if_pos (by omega)]
 refine run ?_;refine J.ifn rfl (fun c2=>?_) (fun c2=>?_)
 ·refine run ?_;refine J.fin ?_;unfold S.chkG;rw[if_neg (by omega),if_pos (by omega)]
 refine run ?_;have h8:∀i,i<g.n→¬S.ownS (g.ops.getD i S.OpV.zero) (S.idAt g.ids i)→(8:Int)=S.chkG g.m g.ids g.ops:=fun i hi h=>by
  unfold S.chkG;rw[if_neg (by omega),if_neg (by omega),if_pos fun ho=>h (ho i (by omega))]
 refine J.loopS (A:=Int) (fun p=>[(3, .int .i64 p)]) [15,16,17,18,19,20,21,22,23,24,25,26,27,28,29,30,31,32,33,34,35,36,37,38,39,40,41,42] (fun p=>(0≤p∧p≤g.n)∧∀i,i<p.toNat→S.ownS (g.ops.getD i S.OpV.zero) (S.idAt g.ids i)) (fun p=>g.n - p.toNat) 0 (by kernel_rfl) ⟨by omega,fun i hi=>by omega⟩ (fun p j hI=>?_);obtain⟨h1,hI⟩:=hI;refine run ?_;refine J.ifd rfl (fun c3=>?_) (fun c3=>?_)
 ·obtain⟨z,hz⟩:=G0.ex (i:=p) (by omega);have R:=G.op hz;have hzo:=GrA.opAt hz;have hsa:Arr .u8 32 (S.sha (S.encS z.o)):=S.sha_arr _;have hid:Arr .u8 32 (elt 32 g.ids p.toNat):=D0.elt_arr (by omega);have h9:¬S.ownS z.o (S.idAt g.ids p.toNat)→(8:Int)=S.chkG g.m g.ids g.ops:=fun h=>h8 p.toNat (by omega) (by rw[hzo];exact h);refine run ?_;refine J.regionX [(0, .q),(1, .q),(2, .q),(3, .q),(4, .q),(5, .e),(6, .q),(7, .q),(8, .q),(9, .q),(10, .q),(11, .q),(12, .q),(14, .q),(15, .q),(16, .q),(17, .q),(18, .q),(13, .e),(19, .q),(20, .q)] mixed (by kernel_rfl) ?_;refine run ?_;refine J.callp rfl rfl (fun w' M=>verifyOR z.o R.ok _ _ _ (R.row.ext M.ext) R.cap) ?_;refine run ?_;refine J.spn rfl rfl rfl (fun c4=>?_) (fun c4=>?_)
  ·refine run ?_;refine J.fin (congrArg _ (h9 fun h=>c4 h.1))
  have hz0:=S.check_zero.1 (S.verE_check c4);refine run ?_;refine J.callp rfl rfl (fun w' M=>ofO z.o R.ok _ _ _ (R.row.ext M.ext) R.cap hz0.1 (fun hk=>?_)) ?_
  ·exact S.fine4 hz0.2.2.2.2.2.2 hk
  refine run ?_;refine J.ifd rfl (fun c5=>?_) (fun c5=>?_)
  ·refine run ?_;exact J.fin (congrArg _ (h9 fun h=>c5 h.2))
  refine run ?_;refine J.nextS (p+1) ⟨rfl,trivial⟩ (by kernel_rfl) ⟨by omega,fun i hi=>?_⟩ (by omega);rcases Nat.lt_or_ge i p.toNat with h|h
  ·exact hI i h
  obtain rfl:i=p.toNat:=by omega
  rw[hzo];exact⟨c4,Decidable.not_not.1 c5⟩
 refine run ?_;refine J.callp rfl rfl (fun w' M=>refShape g w' (G.ext M.ext) (by omega)) ?_;refine run ?_;refine J.fin ?_;unfold S.chkG;rw[if_neg (by omega),if_neg (by omega),if_neg (not_not_intro (show S.ownsS g.ids g.ops from fun i hi=>hI i (by omega)))]
theorem twinG{S0:Nat→Prop}(z:OpA)(w:World)(R:OpR S0 w z):
  Calls prog 87 #[.agg (opC z).toArray] w (Gv w (fun q:Option Addr×Nat=> .agg (opC ⟨z.o,q.1,q.2⟩).toArray) (fun q=>[.wown 24 .u8 32 q.1 z.o.n q.2 z.o.ids]) fun q=>z.o.n≤q.2):=
 Gv.of (twin z.o R.ok _ _ w R.row R.cap) fun v w' x ⟨a',c',hv,hc,O⟩=>⟨(a',c'),hv,hc,sep1 (wown_ok O)⟩
end W
namespace W
open Go.RowKit G
@[reducible] def inC(q:Int):List Value:=[.int .i64 q]
theorem gown_e{α:Type}{f:α→List Value}{sz:Nat}{e:TypeId}{a:Option Addr}{n c:Nat}{lst:List α}{S:Nat→Prop}{w:World}(h:(Ent.gown f sz e a n c lst).ok S w):GOwn f sz 0 w e a n c lst∧∀b,obk a=some b→S b:=h
section
end
section
end
end W
namespace S
open G
@[reducible] def idX(o:OpV):List Int:=if checkE o=0 then sha (encS o)else List.replicate 32 0
def opR(o:OpV):RgV:=regO o (idX o) (idX_arr o).1
end S
namespace W
open Go.RowKit G
section
variable{S0:Nat→Prop}{w0:World}{L:List Ent}{P:Program}{Q:Exit→Act→World→Prop}{c y:Code}{l:List Value}{X:World→Prop}{e1 e2:Ent}
theorem J.joinX{A:Type}(M:A→List (Nat×Value))(Jk:List Nat)(Lp:A→List Ent)(I:A→Prop){l':A→(Nat→Value)→List Value}(h:J S0 w0 L (c.wp P (Exit.then (Cut l M Jk (fun p w=>Mem S0 w0 (Lp p) w∧I p)) Q) (fr l)))
  (k:∀p j,I p→J S0 w0 (Lp p) (y.wp P Q (fr (l' p j))))(hl:∀p j,upd (upd l (M p)) (junk Jk j)=l' p j:=by intro p j;simp only[upd,junk,List.map_cons,List.map_nil,List.set_cons_succ,List.set_cons_zero];exact rfl):J S0 w0 L (c.wp P (Exit.then (y.wp P Q) Q) (fr l)):=fun w Mm=>by
 refine wp_mono (h w Mm) fun e a w hq=>?_
 cases e with
 |normal=>
  have hq:Cut l M Jk (fun p w=>Mem S0 w0 (Lp p) w∧I p) a w:=hq;unfold Cut at hq;obtain⟨p',j',rfl,h1,h2⟩:=hq;show y.wp P Q _ w;rw[hl];exact k p' j' h2 w h1
 |_=>exact hq
end
theorem GRow.nil'{α:Type}{f:α→List Value}{sz:Nat}{S:Nat→Prop}{w:World}(hf:∀x,(f x).length=sz):GRow f sz S w none 0 []:=⟨.inl rfl,rfl,hf⟩
end W
namespace S
open G
theorem OpV.ext'{a b:OpV}(h1:a.au=b.au)(h2:a.st=b.st)(h3:a.k=b.k)(h4:a.vk=b.vk)(h5:a.num=b.num)(h6:a.bits=b.bits)(h7:a.e=b.e)(h8:a.s=b.s)(h9:a.n=b.n)(h10:a.ids=b.ids)(h11:a.key=b.key)(h12:a.t=b.t):a=b:=by
 cases a;cases b;simp only at h1 h2 h3 h4 h5 h6 h7 h8 h9 h10 h11 h12;subst h1 h2 h3 h4 h5 h6 h7 h8 h9 h10 h11 h12;rfl
instance:DecidableEq OpV:=fun a b=>decidable_of_iff (a.au=b.au∧a.st=b.st∧a.k=b.k∧a.vk=b.vk∧a.num=b.num∧a.bits=b.bits∧a.e=b.e∧a.s=b.s∧a.n=b.n∧a.ids=b.ids∧a.key=b.key∧a.t=b.t)
 ⟨fun⟨h1,h2,h3,h4,h5,h6,h7,h8,h9,h10,h11,h12⟩=>OpV.ext' h1 h2 h3 h4 h5 h6 h7 h8 h9 h10 h11 h12,fun h=>by subst h;exact⟨rfl,rfl,rfl,rfl,rfl,rfl,rfl,rfl,rfl,rfl,rfl,rfl⟩⟩
def OpV.wide(o:OpV):Prop:=o.ids.length=32*o.n
theorem sameO_eq{a b:OpV}(ha:a.wide)(hb:b.wide):SameO a b↔a=b:=by
 constructor
 ·rintro⟨h1,h2,h3,⟨h4,h5,h6,h7,h8,h9⟩,h10,h11⟩;unfold OpV.wide at ha hb;have hn:a.n=b.n:=by rw[h2]at ha;omega
  exact OpV.ext' h1 h3 h4 h6 h7 h8 h10 h11 hn h2 h5 h9
 ·rintro rfl;exact sameO_refl a
theorem op_at{l:List OpV}{i:Nat}(h:i<l.length):l[i]? =some (l.getD i OpV.zero):=by rw[List.getD_eq_getElem?_getD,List.getElem?_eq_getElem h];rfl
theorem ops_ext{l m:List OpV}(hl:l.length=m.length)(h:∀i,i<l.length→l.getD i OpV.zero=m.getD i OpV.zero):l=m:=by
 refine List.ext_getElem? fun i=>?_
 by_cases hi:i<l.length
 ·rw[op_at hi,op_at (by omega),h i hi]
 ·rw[List.getElem?_eq_none (by omega),List.getElem?_eq_none (by omega)]
end S
namespace W
open Go.RowKit G
def opE(T:TypeId)(z:OpA):Ent:= .wown T .u8 32 z.pa z.o.n z.pc z.o.ids
def grE(TI TO:TypeId)(g:GrA):List Ent:=[.gown opC 11 TO g.oa g.n g.oc g.zs, .all (g.zs.map (opE TI)), .wown TI .u8 32 g.ia g.m g.ic g.ids]
theorem opC_one(z:OpA):∀u∈opC z,u.oneCell'=true:=by
 intro u hu;simp only[opC,List.mem_cons,List.not_mem_nil,or_false]at hu;rcases hu with rfl|rfl|rfl|rfl|rfl|rfl|rfl|rfl|rfl|rfl|rfl<;>rfl
theorem opC_len(z:OpA):(opC z).length=11:=rfl
instance(z:OpA):LenC (opC z) 11:=⟨rfl,rfl⟩
theorem wown_e{e:TypeId}{k:IntKind}{sz:Nat}{a:Option Addr}{n c:Nat}{xs:List Int}{S:Nat→Prop}{w:World}(h:(Ent.wown e k sz a n c xs).ok S w):WOwn 0 w e k sz a n c xs∧∀b,obk a=some b→S b:=h
theorem wown_row{e:TypeId}{k:IntKind}{sz:Nat}{a:Option Addr}{n c:Nat}{xs:List Int}{S:Nat→Prop}{w:World}(h:(Ent.wown e k sz a n c xs).ok S w):WRow k sz S w a n xs:=wown_wrow h
theorem all_e{E:List Ent}{S:Nat→Prop}{w:World}(h:(Ent.all E).ok S w):Sep E S w:=h
theorem all_i{E:List Ent}{S:Nat→Prop}{w:World}(h:Sep E S w):(Ent.all E).ok S w:=h
theorem sep_mem:∀ {E:List Ent} {S:Nat→Prop} {w:World} {e:Ent},e∈E→Sep E S w→∃S',(∀b,S' b→S b)∧e.ok S' w
 |_::_,_,_,_, .head _,⟨A,_,h1,_,_,h4,_⟩=>⟨A,h1,h4⟩
 |_::_,_,_,_, .tail _ h,⟨_,B,_,h2,_,_,h5⟩=>let ⟨S',k1,k2⟩:=sep_mem h h5;⟨S',fun b hb=>h2 b (k1 b hb),k2⟩
theorem sep_inns{T:TypeId}{zs:List OpA}{S:Nat→Prop}{w:World}(h:Sep (zs.map (opE T)) S w)(hc:∀z∈zs,z.o.n≤z.pc):Inns opI S w zs:=by
 intro z hz i hi;obtain rfl:=List.mem_singleton.1 hi;obtain⟨S',k1,k2⟩:=sep_mem (List.mem_map.2 ⟨z,hz,rfl⟩) h;exact⟨(wown_row k2).weaken fun b _ hb=>k1 b hb,hc z hz⟩
theorem Inns.weak{α:Type}{g:α→List Inn}{S T:Nat→Prop}{w:World}{l:List α}(h:Inns g S w l)(k:∀b,S b→T b):Inns g T w l:=fun x hx i hi=>⟨(h x hx i hi).1.weaken fun b _ hb=>k b hb,(h x hx i hi).2⟩
section
variable{S0:Nat→Prop}{w0:World}{L:List Ent}{X:World→Prop}{e:Ent}{E:List Ent}
theorem J.snocA{F1 F2:Ent→List Ent}(E:List Ent)(e:Ent)[R:RE L e F1][R2:RE (F1 .emp) (.all E) F2](k:J S0 w0 (F2 (.all (E++[e]))) X):J S0 w0 L X:=
 J.merge e (.all E) (.all (E++[e])) (fun S1 S2 w hd h1 h2=>all_i (Sep.app (all_e h2) (sep1 h1) (fun b hb=> .inr hb) (fun b hb=> .inl hb) fun b hb hc=>hd b hc hb)) k
theorem J.noA(k:J S0 w0 (.all []::L) X):J S0 w0 L X:=J.newA [] k fun _=>trivial
end
section
variable{S0:Nat→Prop}{w0:World}{L:List Ent}{P:Program}{ops:Array Oper}{K:List Value→World→Prop}{rest:List (Oper×Kd)}{l:List Value}{m:Md}{d:Tmp}{ty:TypeId}{pos:String}{af:Array Edge}{kd:Kd}{t e:TypeId}{by_ sz:Nat}{k:IntKind}{zs:List Value}
theorem J.b0W[U:Und P t (.slice e)][I:Inf P e sz by_ zs](k:IntKind){l':Nat→List Value}(hk:okE m kd=true)(kk:∀b,J S0 w0 (.wown e k sz (some ⟨b,0,none⟩) 0 0 []::L) (RY S0 w0 m P ops K rest (l' b)))
  (hl:∀b,l.set d (.slice (some ⟨b,0,none⟩) 0 0)=l' b:=by intro b;dsimp only[List.set]):J S0 w0 L (RY S0 w0 m P ops K ((⟨some d, .buildSlice t 0 #[],ty,pos,af,none⟩,kd)::rest) l):=
 J.eff hk fun w M K' hK => RS.buildNone U.h I.h fun b w' e1 s1 x1 B => RS.nil (hK _ w' x1 (by
  rw [hl]
  exact kk b w' (M.new x1 ⟨WOwn.of_blk (xs := []) B rfl rfl (Nat.zero_le _) (Bd.nil _) (by decide), fun q hq => by simp [obk] at hq; subst hq; subst e1; exact Nat.le_refl _⟩)))
end
theorem GrR.own{S0:Nat→Prop}{w0:World}{L:List Ent}{g:GrA}{TI TO:TypeId}{F1:Option Addr→Nat→Nat→List OpA→List Ent}{F2:Option Addr→Nat→Nat→List Int→List Ent}{F3:Ent→List Ent}
  [R1:GO L g.oa opC 11 TO g.n g.oc g.zs F1][R2:RWO L g.ia TI .u8 32 g.m g.ic g.ids F2][R3:RE L (.all (g.zs.map (opE TI))) F3](hok:∀z∈g.zs,z.o.ok)(hc:∀z∈g.zs,z.o.n≤z.pc)(hm:g.m≤70∧g.n≤70)(w:World)(M:Mem S0 w0 L w):GrR (fun _=>True) w g:=by
 obtain⟨A,_,a⟩:=M.get (R1.h g.oa g.n g.oc g.zs).same;obtain⟨B,_,b⟩:=M.get (R2.h g.ia g.m g.ic g.ids).same;obtain⟨C,_,c⟩:=M.get (R3.h (.all (g.zs.map (opE TI)))).same;have a:=(gown_e a).1;have b':=wown_row b;have b:=(wown_e b).1;exact⟨b'.weaken fun _ _ _=>trivial,a.row.weaken fun _ _ _=>trivial,Inns.weak (sep_inns (all_e c) hc) fun _ _=>trivial,hok,(wown_len (S:=fun _=>True) ⟨b,fun _ _=>trivial⟩).2,a.capn,hm⟩
structure GrP(m:Nat)(ids:List Int)(ops:List S.OpV)(g:GrA):Prop where
 m:g.m=m
 ids:g.ids=ids
 n:g.n=ops.length
 ops:g.ops=ops
 cap:∀z∈g.zs,z.o.n≤z.pc
theorem GrP.ok{m:Nat}{ids:List Int}{ops:List S.OpV}{g:GrA}(h:GrP m ids ops g)(ho:∀o∈ops,o.ok):∀z∈g.zs,z.o.ok:=fun z hz=>ho _ (by rw[←h.ops];unfold GrA.ops;exact List.mem_map.2 ⟨z,hz,rfl⟩)
end W
namespace S
open G
structure PG where
 (m:Nat)(ids:List Int)(ops:List OpV)
def PG.good(g:PG):Prop:=g.ids.length=32*g.m∧g.ops.length=g.m
def PG.has(g:PG)(x:List Int)(o:OpV):Prop:=∃i,i<g.m∧idAt g.ids i=x∧g.ops.getD i OpV.zero=o
def insW(ids:List Int)(p:Nat)(x:List Int):List Int:=ids.take (32*p)++(x++ids.drop (32*p))
def insO(ops:List OpV)(p:Nat)(o:OpV):List OpV:=ops.take p++o::ops.drop p
def putP(g:PG)(x:List Int)(o:OpV):PG:=⟨g.m+1,insW g.ids (spotS g.m g.ids x) x,insO g.ops (spotS g.m g.ids x) o⟩
theorem idAt_get(l:List Int)(i j:Nat):(idAt l i)[j]? =if j<32 then l[32*i+j]? else none:=by unfold idAt;rw[List.getElem?_take,List.getElem?_drop]
theorem insW_get{ids x:List Int}{m p:Nat}(hl:ids.length=32*m)(hx:x.length=32)(hp:p≤m)(k:Nat):(insW ids p x)[k]? =if k<32*p then ids[k]? else if k<32*p+32 then x[k - 32*p]? else ids[k - 32]? :=by
 unfold insW;have h1:(ids.take (32*p)).length=32*p:=by rw[List.length_take,hl];omega
 by_cases a:k<32*p
 ·rw[if_pos a,List.getElem?_append_left (by omega),List.getElem?_take,if_pos a]
 ·rw[if_neg a,List.getElem?_append_right (by omega),h1];by_cases b:k<32*p+32
  ·rw[if_pos b,List.getElem?_append_left (by omega)]
  ·rw[if_neg b,List.getElem?_append_right (by omega),List.getElem?_drop,hx];congr 1;omega
theorem insW_len{ids x:List Int}{m p:Nat}(hl:ids.length=32*m)(hx:x.length=32)(hp:p≤m):(insW ids p x).length=32*(m+1):=by
 unfold insW;rw[List.length_append,List.length_append,List.length_take,List.length_drop,hl,hx];omega
theorem idAt_ins{ids x:List Int}{m p:Nat}(hl:ids.length=32*m)(hx:x.length=32)(hp:p≤m)(i:Nat):idAt (insW ids p x) i=if i<p then idAt ids i else if i=p then x else idAt ids (i - 1):=by
 apply List.ext_getElem?;intro j;rw[idAt_get];by_cases hj:j<32
 ·rw[if_pos hj,insW_get hl hx hp];by_cases a:i<p
  ·rw[if_pos a,if_pos (by omega),idAt_get,if_pos hj]
  ·rw[if_neg a,if_neg (by omega)];by_cases b:i=p
   ·rw[if_pos b,if_pos (by omega)];congr 1;omega
   ·rw[if_neg b,if_neg (by omega),idAt_get,if_pos hj];congr 1;omega
 ·rw[if_neg hj];split
  ·rw[idAt_get,if_neg hj]
  ·split
   ·rw[List.getElem?_eq_none (by omega)]
   ·rw[idAt_get,if_neg hj]
theorem insO_len{ops:List OpV}{p:Nat}(o:OpV)(hp:p≤ops.length):(insO ops p o).length=ops.length+1:=by simp[insO];omega
theorem insO_get{ops:List OpV}{p:Nat}(o:OpV)(hp:p≤ops.length)(i:Nat):(insO ops p o).getD i OpV.zero=if i<p then ops.getD i OpV.zero else if i=p then o else ops.getD (i - 1) OpV.zero:=by
 unfold insO;rw[List.getD_eq_getElem?_getD];have h1:(ops.take p).length=p:=by rw[List.length_take];omega
 by_cases a:i<p
 ·rw[if_pos a,List.getElem?_append_left (by omega),List.getElem?_take,if_pos a,List.getD_eq_getElem?_getD]
 ·rw[if_neg a,List.getElem?_append_right (by omega),h1];by_cases b:i=p
  ·rw[if_pos b,show i - p=0 by omega];rfl
  ·rw[if_neg b,show i - p=(i - p - 1)+1 by omega,List.getElem?_cons_succ,List.getElem?_drop,List.getD_eq_getElem?_getD,show p+(i - p - 1)=i - 1 by omega]
section
variable{g h:PG}{x y:List Int}{o u:OpV}
theorem spot_le(g:PG)(x:List Int):spotS g.m g.ids x≤g.m:=spotC_le _ _
theorem putP_good(hg:g.good)(hx:x.length=32)(o:OpV):(putP g x o).good:=
 ⟨insW_len hg.1 hx (spot_le g x),by show(insO _ _ _).length=_;rw[insO_len _ (by rw[hg.2];exact spot_le g x),hg.2];rfl⟩
theorem putP_has(hg:g.good)(hx:x.length=32)(o:OpV)(y:List Int)(u:OpV):(putP g x o).has y u↔g.has y u∨(y=x∧u=o):=by
 have hp:=spot_le g x;have e1:=fun i=>idAt_ins hg.1 hx hp i;have e2:=fun i=>insO_get (ops:=g.ops) o (by rw[hg.2];exact hp) i;constructor
 ·rintro⟨i,hi,h1,h2⟩;have hi:i<g.m+1:=hi;have h1:idAt (insW g.ids (spotS g.m g.ids x) x) i=y:=h1;have h2:(insO g.ops (spotS g.m g.ids x) o).getD i OpV.zero=u:=h2;rw[e1]at h1;rw[e2]at h2;by_cases a:i<spotS g.m g.ids x
  ·rw[if_pos a]at h1 h2;exact .inl ⟨i,by omega,h1,h2⟩
  ·rw[if_neg a]at h1 h2;by_cases b:i=spotS g.m g.ids x
   ·rw[if_pos b]at h1 h2;exact .inr ⟨h1.symm,h2.symm⟩
   ·rw[if_neg b]at h1 h2;exact .inl ⟨i - 1,by omega,h1,h2⟩
 ·rintro(⟨i,hi,h1,h2⟩|⟨rfl,rfl⟩)
  ·by_cases a:i<spotS g.m g.ids x
   ·refine⟨i,Nat.lt_succ_of_lt hi,?_,?_⟩
    ·show idAt (insW _ _ _) i=_;rw[e1,if_pos a];exact h1
    ·show(insO _ _ _).getD i _=_;rw[e2,if_pos a];exact h2
   ·refine⟨i+1,Nat.succ_lt_succ hi,?_,?_⟩
    ·show idAt (insW _ _ _) (i+1)=_;rw[e1,if_neg (by omega),if_neg (by omega)];exact h1
    ·show(insO _ _ _).getD (i+1) _=_;rw[e2,if_neg (by omega),if_neg (by omega)];exact h2
  ·refine⟨spotS g.m g.ids y,Nat.lt_succ_of_le hp,?_,?_⟩
   ·show idAt (insW _ _ _) _=_;rw[e1,if_neg (by omega),if_pos rfl]
   ·show(insO _ _ _).getD _ _=_;rw[e2,if_neg (by omega),if_pos rfl]
theorem has_in:inS g.m g.ids x↔∃o,g.has x o:=⟨fun⟨i,hi,e⟩=>⟨_,i,hi,e,rfl⟩,fun⟨_,i,hi,e,_⟩=>⟨i,hi,e⟩⟩
theorem putP_in(hg:g.good)(hx:x.length=32)(o:OpV):inS (putP g x o).m (putP g x o).ids y↔inS g.m g.ids y∨y=x:=by
 rw[has_in,has_in];constructor
 ·rintro⟨u,h⟩;rcases(putP_has hg hx o y u).1 h with h|h
  ·exact .inl ⟨u,h⟩
  ·exact .inr h.1
 ·rintro(⟨u,h⟩|rfl)
  ·exact⟨u,(putP_has hg hx o y u).2 (.inl h)⟩
  ·exact⟨o,(putP_has hg hx o y o).2 (.inr ⟨rfl,rfl⟩)⟩
theorem putP_rising(hg:g.good)(hr:Rising g.m g.ids)(hx:x.length=32)(hn:¬inS g.m g.ids x)(o:OpV):Rising (putP g x o).m (putP g x o).ids:=by
 have hp:=spot_le g x;have e1:=fun i=>idAt_ins hg.1 hx hp i;intro i hi;have hi:i<g.m:=hi;show cmpS (idAt (insW _ _ _) i) (idAt (insW _ _ _) (i+1))<0;rw[e1,e1];have lo:∀k,k<spotS g.m g.ids x→cmpS (idAt g.ids k) x<0:=fun k hk=>spotC_lt (c:=fun i=>cmpS (idAt g.ids i) x) hk;have hi2:∀k,spotS g.m g.ids x≤k→k<g.m→cmpS x (idAt g.ids k)<0:=fun k hk hm=>by
  have h0:0≤cmpS (idAt g.ids (spotS g.m g.ids x)) x:=spotC_ge (c:=fun i=>cmpS (idAt g.ids i) x) (Nat.lt_of_le_of_lt hk hm);have h1:cmpS (idAt g.ids (spotS g.m g.ids x)) x≠0:=fun e=>hn ⟨_,Nat.lt_of_le_of_lt hk hm,(cmpS_eq _ _).1 e⟩;have h2:=cmpS_swap x (idAt g.ids (spotS g.m g.ids x));have h3:cmpS x (idAt g.ids (spotS g.m g.ids x))<0:=by omega
  rcases Nat.lt_or_eq_of_le hk with e|e
  ·exact cmpS_trans h3 (rising_lt hr _ _ e hm)
  ·rw[←e];exact h3
 rcases Nat.lt_trichotomy (i+1) (spotS g.m g.ids x)with a|a|a
 ·rw[if_pos (by omega),if_pos a];exact rising_lt hr _ _ (Nat.lt_succ_self _) (by omega)
 ·rw[if_pos (by omega),if_neg (by omega),if_pos a];exact lo i (by omega)
 ·have a1:¬(i+1<spotS g.m g.ids x):=by omega
  have a2:¬(i+1=spotS g.m g.ids x):=by omega
  rw[if_neg a1,if_neg a2];by_cases b:i<spotS g.m g.ids x
  ·omega
  ·rw[if_neg b];by_cases c:i=spotS g.m g.ids x
   ·rw[if_pos c,show i+1 - 1=i by omega];exact hi2 i (by omega) hi
   ·rw[if_neg c,show i+1 - 1=i by omega];exact rising_lt hr _ _ (by omega) hi
/-! the same -/
theorem ids_ext{a b:List Int}{m:Nat}(ha:a.length=32*m)(hb:b.length=32*m)(h:∀i,i<m→idAt a i=idAt b i):a=b:=by
 apply List.ext_getElem?;intro k;by_cases hk:k<32*m
 ·have h1:=h (k / 32) (by omega);have h2:=congrArg (fun l=>l[k % 32]?) h1;simp only[idAt_get]at h2;rw[if_pos (by omega),if_pos (by omega),show 32*(k / 32)+k % 32=k by omega]at h2;exact h2
 ·rw[List.getElem?_eq_none (by omega),List.getElem?_eq_none (by omega)]
theorem sorted_ext:∀ {l m:List (List Int)},(l.Pairwise fun a b=>cmpS a b<0)→(m.Pairwise fun a b=>cmpS a b<0)→(∀y,y∈l↔y∈m)→l=m
 |[],[],_,_,_=>rfl
 |[],y::m,_,_,h=>absurd ((h y).2 (List.mem_cons_self ..)) (by simp)
 |x::l,[],_,_,h=>absurd ((h x).1 (List.mem_cons_self ..)) (by simp)
 |x::l,y::m,hl,hm,h=>by
  have hx:=List.pairwise_cons.1 hl;have hy:=List.pairwise_cons.1 hm;have e:x=y:=by
   rcases List.mem_cons.1 ((h x).1 (List.mem_cons_self ..))with e|e
   ·exact e
   ·rcases List.mem_cons.1 ((h y).2 (List.mem_cons_self ..))with e2|e2
    ·exact e2.symm
    ·have h1:=hy.1 x e;have h2:=hx.1 y e2;have:=cmpS_swap x y;omega
  subst e;congr 1;refine sorted_ext hx.2 hy.2 fun z=>⟨fun hz=>?_,fun hz=>?_⟩
  ·rcases List.mem_cons.1 ((h z).1 (List.mem_cons_of_mem _ hz))with e|e
   ·subst e;have:=hx.1 z hz;rw[cmpS_self]at this;omega
   ·exact e
  ·rcases List.mem_cons.1 ((h z).2 (List.mem_cons_of_mem _ hz))with e|e
   ·subst e;have:=hy.1 z hz;rw[cmpS_self]at this;omega
   ·exact e
def idsP(g:PG):List (List Int):=(List.range g.m).map (idAt g.ids)
theorem idsP_sorted(hr:Rising g.m g.ids):(idsP g).Pairwise fun a b=>cmpS a b<0:=by
 unfold idsP;rw[List.pairwise_map,List.pairwise_iff_getElem];intro i j hi hj hij;rw[List.length_range]at hj;rw[List.getElem_range,List.getElem_range];exact rising_lt hr i j hij hj
theorem mem_idsP:x∈idsP g↔inS g.m g.ids x:=by
 unfold idsP inS;rw[List.mem_map];exact⟨fun⟨i,h,e⟩=>⟨i,List.mem_range.1 h,e⟩,fun⟨i,h,e⟩=>⟨i,List.mem_range.2 h,e⟩⟩
theorem PG.ext_has(hg:g.good)(hh:h.good)(rg:Rising g.m g.ids)(rh:Rising h.m h.ids)(he:∀x o,g.has x o↔h.has x o):g=h:=by
 have e1:idsP g=idsP h:=sorted_ext (idsP_sorted rg) (idsP_sorted rh) fun y=>by
  rw[mem_idsP,mem_idsP,has_in,has_in];exact⟨fun⟨o,k⟩=>⟨o,(he y o).1 k⟩,fun⟨o,k⟩=>⟨o,(he y o).2 k⟩⟩
 have em:g.m=h.m:=by simpa [idsP]using congrArg List.length e1
 have e2:∀i,i<g.m→idAt g.ids i=idAt h.ids i:=fun i hi=>by
  have:=congrArg (fun l=>l[i]?) e1;simp only[idsP,List.getElem?_map]at this;rw[List.getElem?_range hi,List.getElem?_range (by omega)]at this;simpa using this
 obtain⟨gm,gi,go⟩:=g;obtain⟨hm,hi,ho⟩:=h;dsimp only at em;subst em;have e3:gi=hi:=ids_ext hg.1 hh.1 e2;subst e3;have e4:go=ho:=ops_ext (hg.2.trans hh.2.symm) fun i hi=>by
  have hi:i<gm:=by have:=hg.2;dsimp only at this;omega
  obtain⟨j,hj,k1,k2⟩:=(he (idAt gi i) (go.getD i OpV.zero)).1 ⟨i,hi,rfl,rfl⟩;obtain rfl:=rising_inj rg hj hi k1;exact k2.symm
 rw[e4]
end
/-! orders by ids -/
def OrdP(g:PG)(xs:List (List Int)):Prop:=xs.Nodup∧(∀x∈xs,inS g.m g.ids x)∧g.m≤xs.length∧∀i,i<xs.length→∀o,g.has (xs.getD i []) o→∀j,j<o.n→idAt o.ids j∈xs.take i
section
variable{g h:PG}{x y:List Int}{o u:OpV}
theorem getD_map_id{l:List Nat}{i:Nat}(h:i<l.length)(f:Nat→List Int):(l.map f).getD i []=f (l.getD i 0):=by
 rw[List.getD_eq_getElem?_getD,List.getElem?_map,List.getElem?_eq_getElem h,List.getD_eq_getElem?_getD,List.getElem?_eq_getElem h];rfl
theorem nodup_map_on{α β:Type}{f:α→β}:∀ {l:List α},(∀a∈l,∀b∈l,f a=f b→a=b)→l.Nodup→(l.map f).Nodup
 |[],_,_=>List.nodup_nil
 |a::l,h,hn=>by
  have h1:=List.nodup_cons.1 hn;rw[List.map_cons,List.nodup_cons];refine⟨fun hm=>?_,nodup_map_on (fun b hb c hc=>h b (List.mem_cons_of_mem _ hb) c (List.mem_cons_of_mem _ hc)) h1.2⟩;obtain⟨b,hb,e⟩:=List.mem_map.1 hm;have:=h b (List.mem_cons_of_mem _ hb) a (List.mem_cons_self ..) e;subst this;exact h1.1 hb
theorem found_ord(hg:g.good)(hr:Rising g.m g.ids)(ho:opensS g.m g.ids g.ops):Found (prS g.m g.ids g.ops) g.m↔∃xs,OrdP g xs:=by
 constructor
 ·rintro⟨l,h1,h2,h3,h4⟩;refine⟨l.map (idAt g.ids),nodup_map_on (fun a ha b hb e=>rising_inj hr (h2 a ha) (h2 b hb) e) h1,fun x hx=>?_,by rw[List.length_map];exact h3,fun i hi u hu j hj=>?_⟩
  ·obtain⟨i,hi,rfl⟩:=List.mem_map.1 hx;exact⟨i,h2 i hi,rfl⟩
  ·rw[List.length_map]at hi;rw[getD_map_id hi]at hu;obtain⟨k,hk,e1,e2⟩:=hu;have hm:=getD_mem hi;obtain rfl:=rising_inj hr hk (h2 _ hm) e1;have hin:=ho (l.getD i 0) (by rw[hg.2];exact hk) j (by rw[e2];exact hj);rw[e2]at hin;have hp:ixS g.m g.ids (idAt u.ids j)∈prS g.m g.ids g.ops (l.getD i 0):=by
    unfold prS;rw[e2];exact List.mem_map.2 ⟨j,List.mem_range.2 hj,rfl⟩
   have:=h4 i hi _ hp;rw[←List.map_take];exact List.mem_map.2 ⟨_,this,(ix_in hin).2⟩
 ·rintro⟨xs,h1,h2,h3,h4⟩;have hix:∀i,i<xs.length→idAt g.ids (ixS g.m g.ids (xs.getD i []))=xs.getD i []∧ixS g.m g.ids (xs.getD i [])<g.m:=fun i hi=>by
   have hm:xs.getD i []∈xs:=by rw[List.getD_eq_getElem?_getD,List.getElem?_eq_getElem hi];exact List.getElem_mem hi
   have:=ix_in (h2 _ hm);exact⟨this.2,this.1⟩
  refine⟨xs.map (ixS g.m g.ids),nodup_map_on (fun a ha b hb e=>?_) h1,fun i hi=>?_,by rw[List.length_map];exact h3,fun i hi p hp=>?_⟩
  ·rw[←(ix_in (h2 a ha)).2,e,(ix_in (h2 b hb)).2]
  ·obtain⟨x,hx,rfl⟩:=List.mem_map.1 hi;exact(ix_in (h2 x hx)).1
  ·rw[List.length_map]at hi;have eg:(xs.map (ixS g.m g.ids)).getD i 0=ixS g.m g.ids (xs.getD i []):=by
    rw[List.getD_eq_getElem?_getD,List.getElem?_map,List.getElem?_eq_getElem hi,List.getD_eq_getElem?_getD,List.getElem?_eq_getElem hi];rfl
   rw[eg]at hp;unfold prS at hp;obtain⟨j,hj,rfl⟩:=List.mem_map.1 hp;have hj:=List.mem_range.1 hj;have:=h4 i hi _ ⟨_,(hix i hi).2,(hix i hi).1,rfl⟩ j hj;rw[←List.map_take];exact List.mem_map.2 ⟨_,this,rfl⟩
structure PG.fine(g:PG):Prop where
 good:g.good
 le:g.m≤60
 rising:Rising g.m g.ids
 own:∀x o,g.has x o→ownS o x
 opens:∀x o,g.has x o→∀j,j<o.n→inS g.m g.ids (idAt o.ids j)
 ord:∃xs,OrdP g xs
theorem chk_fine(hl:g.ids.length=32*g.m):chkG g.m g.ids g.ops=0↔g.fine:=by
 rw[chkG_zero];constructor
 ·rintro⟨h1,h2,h3,h4,h5,h6⟩;have hg:g.good:=⟨hl,h2.symm⟩
  refine⟨hg,by omega,h4,?_,?_,?_⟩
  ·rintro x o ⟨i,hi,rfl,rfl⟩;exact h3 i (by omega)
  ·rintro x o ⟨i,hi,rfl,rfl⟩ j hj;exact h5 i (by omega) j hj
  ·refine(found_ord hg h4 h5).1 ?_;rwa[←h2]at h6
 ·rintro⟨hg,h1,h2,h3,h4,h5⟩;have ho:opensS g.m g.ids g.ops:=fun i hi j hj=>h4 _ _ ⟨i,by rw[←hg.2];exact hi,rfl,rfl⟩ j hj;refine⟨by rw[hg.2];exact h1,hg.2.symm,fun i hi=>h3 _ _ ⟨i,by rw[←hg.2];exact hi,rfl,rfl⟩,h2,ho,?_⟩;rw[hg.2];exact(found_ord hg h2 ho).2 h5
theorem has_fun(hr:Rising g.m g.ids)(h1:g.has x o)(h2:g.has x u):o=u:=by
 obtain⟨i,hi,e1,e2⟩:=h1;obtain⟨j,hj,e3,e4⟩:=h2;obtain rfl:=rising_inj hr hi hj (e1.trans e3.symm);exact e2.symm.trans e4
theorem fine_put(hg:g.fine)(ho:ownS o x)(hx:x.length=32)(hn:¬inS g.m g.ids x)(hp:∀j,j<o.n→inS g.m g.ids (idAt o.ids j))(hm:g.m<60):(putP g x o).fine:=by
 have hin:=fun y=>putP_in (y:=y) hg.good hx o;refine⟨putP_good hg.good hx o,hm,putP_rising hg.good hg.rising hx hn o,?_,?_,?_⟩
 ·intro y u h;rcases(putP_has hg.good hx o y u).1 h with h|⟨rfl,rfl⟩
  ·exact hg.own y u h
  ·exact ho
 ·intro y u h j hj;rw[hin];rcases(putP_has hg.good hx o y u).1 h with h|⟨rfl,rfl⟩
  ·exact .inl (hg.opens y u h j hj)
  ·exact .inl (hp j hj)
 ·obtain⟨xs,h1,h2,h3,h4⟩:=hg.ord;have hxs:x∉xs:=fun h=>hn (h2 x h);refine⟨xs++[x],List.nodup_append.2 ⟨h1,by simp,fun a ha b hb e=>?_⟩,fun y hy=>?_,?_,fun i hi u hu j hj=>?_⟩
  ·rw[List.mem_singleton]at hb;subst hb;subst e;exact hxs ha
  ·rw[hin];rcases List.mem_append.1 hy with h|h
   ·exact .inl (h2 y h)
   ·exact .inr (List.mem_singleton.1 h)
  ·rw[List.length_append];exact Nat.succ_le_succ h3
  ·rw[List.length_append,List.length_singleton]at hi;by_cases e:i<xs.length
   ·have eg:(xs++[x]).getD i []=xs.getD i []:=by rw[List.getD_eq_getElem?_getD,List.getElem?_append_left e,List.getD_eq_getElem?_getD]
    rw[eg]at hu;have hmem:xs.getD i []∈xs:=by rw[List.getD_eq_getElem?_getD,List.getElem?_eq_getElem e];exact List.getElem_mem e
    have hu:g.has (xs.getD i []) u:=by
     rcases(putP_has hg.good hx o _ u).1 hu with h|⟨h,_⟩
     ·exact h
     ·exact absurd (h▸hmem) hxs
    rw[List.take_append_of_le_length (by omega)];exact h4 i e u hu j hj
   ·obtain rfl:i=xs.length:=by omega
    have eg:(xs++[x]).getD xs.length []=x:=by rw[List.getD_eq_getElem?_getD,List.getElem?_append_right (Nat.le_refl _),Nat.sub_self];rfl
    rw[eg]at hu;have hu:u=o:=by
     rcases(putP_has hg.good hx o _ u).1 hu with h|h
     ·exact absurd (has_in.2 ⟨u,h⟩) hn
     ·exact h.2
    subst hu;rw[List.take_left];have hy:=hp j hj
    -- all that is there stands in the order
    have:∀y,inS g.m g.ids y→y∈xs:=fun y hy=>by
     have hsub := nodup_len (l := xs.map (ixS g.m g.ids)) (m := List.range g.m) (nodup_map_on (fun a ha b hb e => by rw [← (ix_in (h2 a ha)).2, e, (ix_in (h2 b hb)).2]) h1) (fun i hi => by
      obtain ⟨a, ha, rfl⟩ := List.mem_map.1 hi
      exact List.mem_range.2 (ix_in (h2 a ha)).1)
     have hall := nodup_all (l := xs.map (ixS g.m g.ids)) (N := g.m) (nodup_map_on (fun a ha b hb e => by rw [← (ix_in (h2 a ha)).2, e, (ix_in (h2 b hb)).2]) h1) (fun i hi => by
      obtain ⟨a, ha, rfl⟩ := List.mem_map.1 hi
      exact (ix_in (h2 a ha)).1) (by rw [List.length_map]; exact h3) (ix_in hy).1
     obtain⟨a,ha,e⟩:=List.mem_map.1 hall;have:a=y:=by rw[←(ix_in (h2 a ha)).2,e,(ix_in hy).2]
     exact this▸ha
    exact this _ hy
end
@[reducible] def idOf(o:OpV):List Int:=sha (encS o)
theorem idOf_len(o:OpV):(idOf o).length=32:=(sha_arr _).1
noncomputable def chkP(g:PG):Int:=chkG g.m g.ids g.ops
def PG.nil:PG:=⟨0,[],[]⟩
theorem nil_good:PG.nil.good:=⟨rfl,rfl⟩
theorem nil_rising:Rising PG.nil.m PG.nil.ids:=fun i hi=>absurd hi (Nat.not_lt_zero _)
theorem nil_in(x:List Int):¬inS PG.nil.m PG.nil.ids x:=fun⟨i,hi,_⟩=>absurd hi (Nat.not_lt_zero _)
theorem nil_has(x:List Int)(o:OpV):¬PG.nil.has x o:=fun⟨i,hi,_⟩=>absurd hi (Nat.not_lt_zero _)
noncomputable def addE(g:PG)(o:OpV):Int:=if chkP g≠0 then chkP g else if verE o≠0 then verE o else if inS g.m g.ids (idOf o)then 14 else if ¬allI g.m g.ids o.n o.ids then 40 else if g.m=60 then 18 else 0
noncomputable def addP(g:PG)(o:OpV):PG:=if addE g o=0 then putP g (idOf o) o else .nil
noncomputable def addI(g:PG)(o:OpV):List Int:=if addE g o=0 then idOf o else List.replicate 32 0
theorem addE_1{g:PG}{o:OpV}(h:chkP g≠0):addE g o=chkP g∧addE g o≠0:=by
 have e:addE g o=chkP g:=by unfold addE;rw[if_pos h]
 exact⟨e,by rw[e];exact h⟩
theorem addE_2{g:PG}{o:OpV}(h:chkP g=0)(h2:verE o≠0):addE g o=verE o∧addE g o≠0:=by
 have e:addE g o=verE o:=by unfold addE;rw[if_neg (not_not_intro h),if_pos h2]
 exact⟨e,by rw[e];exact h2⟩
theorem addE_3{g:PG}{o:OpV}(h:chkP g=0)(h2:verE o=0)(h3:inS g.m g.ids (idOf o)):addE g o=14:=by unfold addE;rw[if_neg (not_not_intro h),if_neg (not_not_intro h2),if_pos h3]
theorem addE_4{g:PG}{o:OpV}(h:chkP g=0)(h2:verE o=0)(h3:¬inS g.m g.ids (idOf o))(h4:¬allI g.m g.ids o.n o.ids):addE g o=40:=by unfold addE;rw[if_neg (not_not_intro h),if_neg (not_not_intro h2),if_neg h3,if_pos h4]
theorem addE_5{g:PG}{o:OpV}(h:chkP g=0)(h2:verE o=0)(h3:¬inS g.m g.ids (idOf o))(h4:allI g.m g.ids o.n o.ids)(h5:g.m=60):addE g o=18:=by unfold addE;rw[if_neg (not_not_intro h),if_neg (not_not_intro h2),if_neg h3,if_neg (not_not_intro h4),if_pos h5]
theorem addE_0{g:PG}{o:OpV}(h:chkP g=0)(h2:verE o=0)(h3:¬inS g.m g.ids (idOf o))(h4:allI g.m g.ids o.n o.ids)(h5:g.m≠60):addE g o=0:=by unfold addE;rw[if_neg (not_not_intro h),if_neg (not_not_intro h2),if_neg h3,if_neg (not_not_intro h4),if_neg h5]
theorem addE_zero{g:PG}{o:OpV}:addE g o=0↔chkP g=0∧verE o=0∧¬inS g.m g.ids (idOf o)∧allI g.m g.ids o.n o.ids∧g.m≠60:=by
 constructor
 ·intro h;have h1:chkP g=0:=Classical.byContradiction fun c=>(addE_1 c).2 h;have h2:verE o=0:=Classical.byContradiction fun c=>(addE_2 h1 c).2 h;have h3:¬inS g.m g.ids (idOf o):=fun c=>by rw[addE_3 h1 h2 c]at h;exact absurd h (by decide)
  have h4:allI g.m g.ids o.n o.ids:=Classical.byContradiction fun c=>by rw[addE_4 h1 h2 h3 c]at h;exact absurd h (by decide)
  exact⟨h1,h2,h3,h4,fun c=>by rw[addE_5 h1 h2 h3 h4 c]at h;exact absurd h (by decide)⟩
 ·rintro⟨h1,h2,h3,h4,h5⟩;exact addE_0 h1 h2 h3 h4 h5
theorem addP_yes{g:PG}{o:OpV}(h:addE g o=0):addP g o=putP g (idOf o) o∧addI g o=idOf o:=⟨if_pos h,if_pos h⟩
/-! lists -/
def mkN(l:List OpV):Nat→Option PG
 |0=>some .nil
 |i+1=>(mkN l i).bind fun g=>if inS g.m g.ids (idOf (l.getD i OpV.zero))then none else some (putP g (idOf (l.getD i OpV.zero)) (l.getD i OpV.zero))
def verL:List OpV→Int
 |[]=>0
 |o::l=>if verE o≠0 then verE o else verL l
theorem verL_zero:∀ {l:List OpV},verL l=0↔∀o∈l,verE o=0
 |[]=>by simp[verL]
 |o::l=>by
  have ih:= @verL_zero l;unfold verL;by_cases h:verE o=0
  ·rw[if_neg (not_not_intro h),ih];simp[h]
  ·rw[if_pos h];simp[h]
theorem verL_first:∀ {l:List OpV} {i:Nat},i<l.length→(∀k,k<i→verE (l.getD k OpV.zero)=0)→verE (l.getD i OpV.zero)≠0→verL l=verE (l.getD i OpV.zero)
 |[],_,h,_,_=>absurd h (Nat.not_lt_zero _)
 |o::l,0,_,_,h=>by unfold verL;exact if_pos h
 |o::l,i+1,hi,hk,h=>by
  unfold verL;have h0:verE o=0:=hk 0 (by omega);rw[if_neg (not_not_intro h0)];exact verL_first (by simpa using hi) (fun k hk'=>by have:=hk (k+1) (by omega);simpa using this) (by simpa using h)
theorem verL_all{l:List OpV}(h:∀k,k<l.length→verE (l.getD k OpV.zero)=0):verL l=0:=verL_zero.2 fun o ho=>by
 obtain⟨k,hk,rfl⟩:=List.getElem_of_mem ho;have:=h k hk;rwa[List.getD_eq_getElem?_getD,List.getElem?_eq_getElem hk]at this
noncomputable def lstE(l:List OpV):Int:=if 60<l.length then 4 else if verL l≠0 then verL l else match mkN l l.length with
 |none=>14
 |some g=>shapeS g.m g.ids g.ops
noncomputable def lstP(l:List OpV):PG:=if lstE l=0 then(mkN l l.length).getD .nil else .nil
theorem mkN_none{l:List OpV}{i:Nat}(h:mkN l i=none):∀k,i≤k→mkN l k=none:=by
 intro k hk
 induction k with
 |zero=>
  obtain rfl:i=0:=by omega
  exact h
 |succ k ih=>
  rcases Nat.lt_or_eq_of_le hk with e|e
  ·unfold mkN;rw[ih (by omega)];rfl
  ·rw[←e];exact h
theorem mkN_twice{l:List OpV}{i:Nat}{g:PG}(h:mkN l i=some g)(hin:inS g.m g.ids (idOf (l.getD i OpV.zero))):mkN l (i+1)=none:=by unfold mkN;rw[h];exact if_pos hin
theorem mkN_more{l:List OpV}{i:Nat}{g:PG}(h:mkN l i=some g)(hin:¬inS g.m g.ids (idOf (l.getD i OpV.zero))):mkN l (i+1)=some (putP g (idOf (l.getD i OpV.zero)) (l.getD i OpV.zero)):=by unfold mkN;rw[h];exact if_neg hin
theorem mkN_good{l:List OpV}{i:Nat}{g:PG}(h:mkN l i=some g):g.good∧Rising g.m g.ids∧g.m=i∧∀x o,g.has x o↔∃k,k<i∧x=idOf (l.getD k OpV.zero)∧o=l.getD k OpV.zero:=by
 induction i generalizing g with
 |zero=>
  obtain rfl:PG.nil=g:=Option.some.inj h;exact⟨nil_good,nil_rising,rfl,fun x o=>⟨fun h=>absurd h (nil_has x o),fun⟨k,hk,_⟩=>absurd hk (Nat.not_lt_zero _)⟩⟩
 |succ i ih=>
  cases hp:mkN l i with
  |none=>rw[mkN_none hp (i+1) (by omega)]at h;cases h
  |some g'=>
   obtain⟨h1,h2,h3,h4⟩:=ih hp;by_cases hin:inS g'.m g'.ids (idOf (l.getD i OpV.zero))
   ·rw[mkN_twice hp hin]at h;cases h
   ·rw[mkN_more hp hin]at h;obtain rfl:=Option.some.inj h;refine⟨putP_good h1 (idOf_len _) _,putP_rising h1 h2 (idOf_len _) hin _,by show g'.m+1=_;rw[h3],fun x o=>?_⟩;rw[putP_has h1 (idOf_len _),h4];constructor
    ·rintro(⟨k,hk,e⟩|e)
     ·exact⟨k,by omega,e⟩
     ·exact⟨i,Nat.lt_succ_self _,e⟩
    ·rintro⟨k,hk,e⟩;rcases Nat.lt_or_ge k i with a|a
     ·exact .inl ⟨k,a,e⟩
     ·obtain rfl:k=i:=by omega
      exact .inr e
theorem lstE_4{l:List OpV}(h:60<l.length):lstE l=4:=by unfold lstE;rw[if_pos h]
theorem lstE_v{l:List OpV}(h:¬60<l.length)(h2:verL l≠0):lstE l=verL l∧lstE l≠0:=by
 have e:lstE l=verL l:=by unfold lstE;rw[if_neg h,if_pos h2]
 exact⟨e,by rw[e];exact h2⟩
theorem lstE_14{l:List OpV}(h:¬60<l.length)(h2:verL l=0)(h3:mkN l l.length=none):lstE l=14:=by unfold lstE;rw[if_neg h,if_neg (not_not_intro h2),h3]
theorem lstE_s{l:List OpV}{g:PG}(h:¬60<l.length)(h2:verL l=0)(h3:mkN l l.length=some g):lstE l=shapeS g.m g.ids g.ops:=by unfold lstE;rw[if_neg h,if_neg (not_not_intro h2),h3]
theorem lstP_no{l:List OpV}(h:lstE l≠0):lstP l= .nil:=if_neg h
theorem lstP_yes{l:List OpV}{g:PG}(h:lstE l=0)(h3:mkN l l.length=some g):lstP l=g:=by unfold lstP;rw[if_pos h,h3];rfl
/-! unions -/
/-! comparisons -/
end S
namespace W
open Go.RowKit G
structure IdV where
 (xs:List Int)(h:xs.length=32)
@[reducible] def idC(x:IdV):List Value:=ints .u8 x.xs
theorem idC_len(x:IdV):(idC x).length=32:=by rw[ints_length,x.h]
theorem idC_one(x:IdV):∀u∈idC x,u.oneCell'=true:=ints_one _ _
instance(x:IdV):LenC (idC x) 32:=⟨idC_len x,ints_cellB _ _⟩
def flatI(l:List IdV):List Int:=l.flatMap IdV.xs
theorem flatI_cells:∀l:List IdV,l.flatMap idC=ints .u8 (flatI l)
 |[]=>rfl
 |x::l=>by
  rw[List.flatMap_cons,flatI_cells l];unfold flatI;rw[List.flatMap_cons,ints_append]
theorem chunks:∀(n:Nat) (xs:List Int),xs.length=32*n→∃l:List IdV,l.length=n∧flatI l=xs
 |0,xs,h=>⟨[],rfl,by rw[List.eq_nil_of_length_eq_zero (by omega:xs.length=0)];rfl⟩
 |n+1,xs,h=>by
  obtain⟨l,h1,h2⟩:=chunks n (xs.drop 32) (by rw[List.length_drop];omega);refine⟨⟨xs.take 32,by rw[List.length_take];omega⟩::l,by rw[List.length_cons,h1],?_⟩;unfold flatI at h2⊢;rw[List.flatMap_cons,h2,List.take_append_drop]
theorem flatI_take(l:List IdV):∀i,flatI (l.take i)=(flatI l).take (32*i):=by
 induction l with
 |nil=>intro i;simp[flatI]
 |cons x l ih=>
  intro i;cases i with
  |zero=>simp[flatI]
  |succ i=>
   unfold flatI at ih⊢;rw[List.take_succ_cons,List.flatMap_cons,List.flatMap_cons,ih,List.take_append,x.h,List.take_of_length_le (l:=x.xs) (by rw[x.h];omega),show 32*(i+1) - 32=32*i by omega]
theorem flatI_drop(l:List IdV):∀i,flatI (l.drop i)=(flatI l).drop (32*i):=by
 induction l with
 |nil=>intro i;simp[flatI]
 |cons x l ih=>
  intro i;cases i with
  |zero=>simp[flatI]
  |succ i=>
   unfold flatI at ih⊢;rw[List.drop_succ_cons,List.flatMap_cons,ih,List.drop_append,x.h,List.drop_of_length_le (l:=x.xs) (by rw[x.h];omega),List.nil_append,show 32*(i+1) - 32=32*i by omega]
theorem flatI_ins(l:List IdV)(x:IdV)(i:Nat):flatI (l.take i++x::l.drop i)=S.insW (flatI l) i x.xs:=by
 unfold S.insW;rw[←flatI_take,←flatI_drop];unfold flatI;rw[List.flatMap_append,List.flatMap_cons]
section
variable{S:Nat→Prop}{w:World}{T:TypeId}{a:Option Addr}{n c:Nat}{l:List IdV}{xs:List Int}
theorem gown_wown(hb:Bd .u8 (flatI l))(h:(Ent.gown idC 32 T a n c l).ok S w):(Ent.wown T .u8 32 a n c (flatI l)).ok S w:=by
 obtain⟨h1,h2⟩:=gown_e h;have:=h1.own;rw[flatI_cells]at this;exact⟨⟨this,hb⟩,h2⟩
end
section
end
end W
namespace W
open Go.RowKit G
set_option maxRecDepth 20000
set_option maxHeartbeats 8000000
attribute [local irreducible] RS RX RY Code.wp bodyPost J Ent.blk Ent.irow Ent.iown Ent.wrow Ent.wown Ent.gown Ent.all Ent.emp
instance:Inf prog 43 2 48 [.slice none 0 0, .slice none 0 0]:=⟨TI.of (v:= .agg #[.slice none 0 0, .slice none 0 0]) (by kernel_rfl) rfl⟩
instance:SInf prog 43 [(0,1),(1,1)]:=⟨_,underlying43,by kernel_rfl,by kernel_rfl⟩
instance:Siz prog 43 2:=⟨by kernel_rfl⟩
instance:Ents prog 87:=⟨.mk func87 (by kernel_rfl) rfl⟩
instance:Siz prog 41 1:=⟨by kernel_rfl⟩
instance:Ents prog 22:=⟨.mk func22 (by kernel_rfl) rfl⟩
instance:Ents prog 25:=⟨.mk func25 (by kernel_rfl) rfl⟩
structure GtA where
 (n:Nat)(a:Option Addr)(c:Nat)(zs:List OpA)
theorem GrR.opz{S0:Nat→Prop}{w:World}{g:GrA}(h:GrR S0 w g):∀o∈g.ops,o.ok:=fun o ho=>by
 unfold GrA.ops at ho;obtain⟨z,hz,rfl⟩:=List.mem_map.1 ho;exact h.ok z hz
theorem GrR.widz{S0:Nat→Prop}{w:World}{g:GrA}(h:GrR S0 w g){i:Nat}(hi:i<g.n):(g.ops.getD i S.OpV.zero).wide:=by
 obtain⟨z,hz⟩:=h.ops.ex (i:=(i:Nat)) (by omega);have R:=h.op hz;rw[Int.toNat_natCast]at hz;rw[GrA.opAt hz];exact R.row.len
theorem refGTwin{S0:Nat→Prop}(g:GrA)(w:World)(G:GrR S0 w g):
  Calls prog 157 #[.agg (grC g).toArray] w (Gv w (fun q:GrA=> .agg (grC q).toArray) (grE 24 37) (GrP g.m g.ids g.ops)):=by
 have D0:=G.ids;have G0:=G.ops;have hl:=G.len;have hcp:=G.cap;refine J.enter 28 func157 rfl rfl ?_;refine run ?_;refine J.box rfl rfl rfl fun b1=>?_
 refine J.alloc rfl fun b2=>?_
 refine run ?_;refine J.b0W .u8 rfl fun b4=>?_
 refine run ?_;refine J.apW rfl rfl (RW.arg D0) fun ia ic=>?_
 rw[Nat.zero_add g.m,List.nil_append g.ids];refine run ?_;refine J.alloc rfl fun b3=>?_
 refine run ?_;refine J.noA (J.nilG opC 11 37 opC_len ?_);refine J.loop (A:=GtA) (fun p=>[(4, .int .i64 (p.n:Nat))]) [10,11,12,13,14,15,16,17,18,19,20,21,22,23,24,25,26,27] (fun p=>[.gown opC 11 37 p.a p.n p.c p.zs, .all (p.zs.map (opE 24)), .blk b3 [.slice ia g.m ic, .slice p.a p.n p.c] 43, .wown 24 .u8 32 ia g.m ic g.ids, .blk b2 [.slice none 0 0, .slice none 0 0] 43, .blk b1 (grC g) 43]) (fun p=>p.n≤g.n∧p.zs.map OpA.o=g.ops.take p.n∧∀z∈p.zs,z.o.n≤z.pc) (fun p=>g.n - p.n) ⟨0,none,0,[]⟩ (by kernel_rfl) ⟨Nat.zero_le _,rfl,fun z hz=>(by cases hz)⟩ (fun p j hI=>?_);obtain⟨hI1,hI2,hI3⟩:=hI;refine run ?_;refine J.ifd rfl (fun c1=>?_) (fun c1=>?_)
 ·obtain⟨z,hzz⟩:=G0.ex (i:=(p.n:Nat)) (by omega);have R:=G.op hzz;have hzz':=hzz;rw[Int.toNat_natCast]at hzz';have hzo:=GrA.opAt hzz';refine run ?_;refine J.regionX [(0, .q),(1, .q),(2, .q),(3, .q),(4, .q),(5, .q),(6, .q),(7, .e),(8, .e),(9, .g),(10, .q),(11, .g)] mixed (by kernel_rfl) ?_;refine run ?_;refine J.call rfl rfl (fun w' M=>twinG z w' (R.ext M.ext)) fun q hq=>?_
  refine J.b1G opC ⟨z.o,q.1,q.2⟩ opC_len rfl rfl rfl fun bb=>?_
  refine J.apG rfl rfl RG.own' opC_one fun a' c'=>?_
  refine run ?_;refine J.snocA (p.zs.map (opE 24)) (.wown 24 .u8 32 q.1 z.o.n q.2 z.o.ids) ?_;refine J.drop (E:=[.gown opC 11 37 a' (p.n+1) c' (p.zs++[(⟨z.o,q.1,q.2⟩:OpA)]), .all (p.zs.map (opE 24)++[.wown 24 .u8 32 q.1 z.o.n q.2 z.o.ids]), .blk b3 [.slice ia g.m ic, .slice a' (p.n+1) c'] 43, .wown 24 .u8 32 ia g.m ic g.ids, .blk b2 [.slice none 0 0, .slice none 0 0] 43, .blk b1 (grC g) 43]) (.cons _ (.cons _ (List.Sublist.refl _))) ?_;refine J.re (.all (p.zs.map (opE 24)++[.wown 24 .u8 32 q.1 z.o.n q.2 z.o.ids])) (.all ((p.zs++[(⟨z.o,q.1,q.2⟩:OpA)]).map (opE 24))) (fun _ _ h=>by rw[List.map_append];exact h) ?_
  exact J.next ⟨p.n + 1, a', c', p.zs ++ [⟨z.o, q.1, q.2⟩]⟩ ⟨rfl, trivial⟩ (by kernel_rfl) ⟨by dsimp only; omega, by dsimp only; rw [List.map_append, hI2, List.take_add_one, S.op_at (by omega), hzo]; rfl, fun y hy => by
   rcases List.mem_append.1 hy with h | h
   ·exact hI3 y h
   rw [List.mem_singleton] at h; subst h; exact hq⟩ (by dsimp only; omega)
 have hpn:p.n=g.n:=by omega
 refine run ?_;exact J.finG ⟨ia,p.a,g.m,p.n,ic,p.c,g.ids,p.zs⟩ rfl ⟨rfl,rfl,by dsimp only;omega,by show p.zs.map OpA.o=_;rw[hI2,List.take_of_length_le (by omega)],hI3⟩ (by unfold grE;repeat(first|exact List.nil_sublist _|refine List.Sublist.cons_cons _ ?_|refine List.Sublist.cons _ ?_))
theorem refGSame{S0 S1:Nat→Prop}(g h:GrA)(w:World)(G:GrR S0 w g)(H:GrR S1 w h):
  Calls prog 81 #[.agg (grC g).toArray, .agg (grC h).toArray] w (Ret w fun v _=>v= .bool (decide (g.ids=h.ids∧g.ops=h.ops))):=by
 have D0:=G.ids;have G0:=G.ops;have D1:=H.ids;have G1:=H.ops;have hl:=G.len;have hl1:=H.len;have hcp:=G.cap;have hcp1:=H.cap;refine J.enter 38 func81 rfl rfl ?_;refine run ?_;refine J.box rfl rfl rfl fun b1=>?_
 refine J.box rfl rfl rfl fun b2=>?_
 refine run ?_;refine J.callp rfl rfl (fun w' M=>sameIDs _ _ _ _ _ _ _ _ _ (D0.ext M.ext) (D1.ext M.ext) (by omega) (by omega)) ?_;refine run ?_;refine J.spt rfl rfl rfl (fun c1=>?_) (fun c1=>?_)
 ·have c1:=of_decide_eq_false c1;refine run ?_;exact J.fin (congrArg _ (decide_eq_false fun h=>c1 h.1).symm)
 have c1:=of_decide_eq_true c1;refine run ?_;refine J.ifn rfl (fun c2=>?_) (fun c2=>?_)
 ·refine run ?_;exact J.fin (congrArg _ (decide_eq_false fun h=>c2 (by rw[←hl,←hl1,h.2])).symm)
 refine run ?_;refine J.loopS (A:=Int) (fun p=>[(5, .int .i64 p)]) [4,21,22,23,24,25,26,27,28,29,30,31,32,33,34,35,36,37,38,39] (fun p=>(0≤p∧p≤g.n)∧∀i,i<p.toNat→g.ops.getD i S.OpV.zero=h.ops.getD i S.OpV.zero) (fun p=>g.n - p.toNat) 0 (by kernel_rfl) ⟨by omega,fun i hi=>by omega⟩ (fun p j hI=>?_);obtain⟨h1,hI⟩:=hI;refine run ?_;refine J.ifd rfl (fun c3=>?_) (fun c3=>?_)
 ·obtain⟨z,hzz⟩:=G0.ex (i:=p) (by omega);obtain⟨y,hyy⟩:=G1.ex (i:=p) (by omega);have R:=G.op hzz;have R1:=H.op hyy;have hzo:=GrA.opAt hzz;have hyo:=GrA.opAt hyy;have hse:=S.sameO_eq (a:=z.o) (b:=y.o) R.row.len R1.row.len;refine run ?_;refine J.regionX [(0, .q),(1, .q),(2, .q),(3, .q),(4, .q),(5, .q),(6, .q),(7, .q),(8, .q),(9, .q),(10, .e),(11, .q)] mixed (by kernel_rfl) ?_;refine run ?_;refine J.callp rfl rfl (fun w' M=>sameO z.o y.o R.ok R1.ok _ _ _ _ w' (R.row.ext M.ext) (R1.row.ext M.ext)) ?_;refine run ?_;refine J.ifnot rfl (fun c4=>?_) (fun c4=>?_)
  ·have c4:=of_decide_eq_false c4;refine run ?_;exact J.fin (congrArg _ (decide_eq_false fun h=>c4 (hse.2 (by rw[←hzo,←hyo,h.2]))).symm)
  have c4:=hse.1 (of_decide_eq_true c4);refine run ?_;refine J.nextS (p+1) ⟨rfl,trivial⟩ (by kernel_rfl) ⟨by omega,fun i hi=>?_⟩ (by omega);rcases Nat.lt_or_ge i p.toNat with e|e
  ·exact hI i e
  obtain rfl:i=p.toNat:=by omega
  rw[hzo,hyo,c4]
 refine run ?_;exact J.fin (congrArg _ (decide_eq_true ⟨c1,S.ops_ext (by omega) fun i hi=>hI i (by omega)⟩).symm)
end W
namespace G
open Go.RowKit
def WX(S0:Nat→Prop)(w0:World)(Lq:List Ent)(P:Program)(l0:List Oper)(K:List Value→World→Prop)(n:Nat)(li:Array Bool)(l:List Value)(w:World):Prop:=
 Closed l0.toArray li→wpX P l0.toArray (MR S0 w0 Lq) [] (fun a w=>∃l,a=fr l∧K l w) n li (fr l) w
def BR(S0:Nat→Prop)(w0:World)(Lq:List Ent)(P:Program)(l0:List Oper)(K:List Value→World→Prop)(n:Nat)(li:Array Bool):List Nat→List Value→World→Prop
 |[],_,_=>True
 |i::rd,l,w=>RX P l0.toArray (MR S0 w0 Lq) (WX S0 w0 Lq P l0 K n (li.setIfInBounds i true)) [(nth l0 i, .e)] l w∧BR S0 w0 Lq P l0 K n li rd l w
section
variable{S0:Nat→Prop}{w0:World}{L Lq:List Ent}{P:Program}{Q:Exit→Act→World→Prop}{l:List Value}{id n n':Nat}{l0:List Oper}{K:List Value→World→Prop}{li:Array Bool}{rd:List Nat}
theorem BR.get{k:Nat}{w:World}:∀ {rd:List Nat},BR S0 w0 Lq P l0 K n li rd l w→k∈rd→RX P l0.toArray (MR S0 w0 Lq) (WX S0 w0 Lq P l0 K n (li.setIfInBounds k true)) [(nth l0 k, .e)] l w
 |_::_,h, .head _=>h.1
 |_::_,h, .tail _ hk=>BR.get h.2 hk
theorem J.regionW(Lq:List Ent)(hm:P.follows .mixedOrders=true)(h:J S0 w0 L (WX S0 w0 Lq P l0 (KN Q) l0.length (Array.replicate l0.length false) l)):J S0 w0 L ((Code.region id l0.toArray true).wp P Q (fr l)):=fun w M=>by
 refine wp_region_any hm ?_;have:=h {w with drawn:=w.drawn+1} (M.grow ((Below.refl _ _).drew)) (by intro k ok _ h;exfalso;simp[Array.getElem?_replicate]at h;split at h<;>simp at h);have h2:=wpAny_of_X (Q':=Q) (R:=MR S0 w0 Lq) (fun a w h=>by obtain⟨l,rfl,h⟩:=h;exact h) l0.length (Array.replicate l0.length false) (fr l) _ this;simpa using h2
theorem J.wnode{pl':List (Oper×Kd)}(pl:List (Nat×Kd))(rd:List Nat)(n':Nat)(li':Array Bool)
  (hB:(Region.noSelect l0.toArray&&(noG pl&&(Nat.beq (n'+1+pl.length) n&&(!rd.isEmpty&&planB l0.toArray [] (fun s=>(Region.ready .any l0.toArray s==rd)&&s.toList==li'.toList) pl li))))=true)
  (h:J S0 w0 L (RY S0 w0 (.r Lq) P l0.toArray (BR S0 w0 Lq P l0 K n' li' rd) pl' l))(hs:Lq.Sublist L:=by repeat(first|exact List.Sublist.refl _|refine List.Sublist.cons_cons _ ?_|refine List.Sublist.cons _ ?_))(hp:pick l0 pl=pl':=by dsimp only[pick,nth]):J S0 w0 L (WX S0 w0 Lq P l0 K n li l):=fun w M hcl=>by
 simp only[Bool.and_eq_true]at hB;obtain⟨hns,hn,hz,hr0,hB⟩:=hB;have hz:=Nat.eq_of_beq_eq_true hz;subst hz;subst hp;have h1:RX P l0.toArray (MR S0 w0 Lq) (BR S0 w0 Lq P l0 K n' li' rd) (pick l0 pl) l w:=h w M (M.sub hs);refine rx_list (n:=n'+1) (bg:=[]) (fl:=[]) ?_ (fun _ h=>h) (fun h k x=>k (h x)) hns (fun j hj=>by cases hj) pl li l w hcl (noG_g hn).1 (noG_g hn).2 hB h1;intro listed l w hcl he hk;simp only[Bool.and_eq_true,beq_iff_eq]at he;obtain⟨hr,hl⟩:=he;obtain rfl:listed=li':=Array.ext' hl;refine⟨fun h0=>by rw[h0]at hr;subst hr;simp at hr0,fun k hm=>?_⟩;have hk2:=BR.get hk (hr▸hm);have hlt:k<l0.length:=by
  obtain⟨_,o,ho,_⟩:=mem_ready.1 hm;simpa using(Array.getElem?_eq_some_iff.1 ho).1
 have hi:l0.toArray[k]? =some (nth l0 k):=by simpa using nth_get l0 k hlt
 unfold xOp;simp only[hi];simp only[RX]at hk2;split
 ·rename_i hw;rw[if_pos (by exact hw)]at hk2;unfold Oper.wp at*;refine upon_mono ?_ (fun _ _ _ h=>h) hk2;rintro a w' ⟨l',rfl,hR,h⟩;exact⟨fun _=>hR,h (hcl.set hm)⟩
 ·rename_i hw;rw[if_neg (by exact hw)]at hk2;rw[put_fr];exact⟨fun _=>fun h=>h,hk2 (hcl.set hm)⟩
theorem J.wfin{pl':List (Oper×Kd)}(pl:List (Nat×Kd))
  (hB:(Region.noSelect l0.toArray&&(noG pl&&(Nat.beq pl.length n&&planB l0.toArray [] (endB l0.toArray) pl li)))=true)
  (h:J S0 w0 L (RY S0 w0 (.r Lq) P l0.toArray K pl' l))(hs:Lq.Sublist L:=by repeat(first|exact List.Sublist.refl _|refine List.Sublist.cons_cons _ ?_|refine List.Sublist.cons _ ?_))(hp:pick l0 pl=pl':=by dsimp only[pick,nth]):J S0 w0 L (WX S0 w0 Lq P l0 K n li l):=fun w M hcl=>by
 simp only[Bool.and_eq_true]at hB;obtain⟨hns,hn,hz,hB⟩:=hB;have hz:=Nat.eq_of_beq_eq_true hz;subst hz;subst hp;have h1:RX P l0.toArray (MR S0 w0 Lq) K (pick l0 pl) l w:=h w M (M.sub hs);have:=rx_list (bg:=[]) (fl:=[]) (n:=0) (en:=endB l0.toArray) (Qx:=fun a w=>∃l,a=fr l∧K l w) (fun listed l w _ he hk=>⟨by simpa [endB]using he,l,rfl,hk⟩) (fun _ h=>h) (fun h k x=>k (h x)) hns (fun j hj=>by cases hj) pl li l w hcl (noG_g hn).1 (noG_g hn).2 hB h1;rwa[Nat.zero_add]at this
theorem J.wbr{i:Nat}{oi:Oper}(h1:J S0 w0 L (RY S0 w0 (.r Lq) P l0.toArray (WX S0 w0 Lq P l0 K n (li.setIfInBounds i true)) [(oi, .e)] l))(h2:J S0 w0 L (BR S0 w0 Lq P l0 K n li rd l))
  (hs:Lq.Sublist L:=by repeat(first|exact List.Sublist.refl _|refine List.Sublist.cons_cons _ ?_|refine List.Sublist.cons _ ?_))(hi:nth l0 i=oi:=by dsimp only[nth]):J S0 w0 L (BR S0 w0 Lq P l0 K n li (i::rd) l):=fun w M=>by
 subst hi;exact⟨h1 w M (M.sub hs),h2 w M⟩
theorem J.wbr0:J S0 w0 L (BR S0 w0 Lq P l0 K n li [] l):=fun _ _=>trivial
theorem J.front{X:World→Prop}{F:Ent→List Ent}(e:Ent)[R:RE L e F](k:J S0 w0 (e::F .emp) X):J S0 w0 L X:=fun w M=>by
 exact k w (M.split (R.h .emp) fun S h=>⟨no,S,fun _ h=>h.elim,fun _ h=>h,fun _ h=>h.elim,trivial,h⟩)
theorem D.buildA0{ev0:Operand→Value}{w:World}{dd:Option Tmp}{ty t e n by_:Nat}{pos:String}{af:Array Edge}{g:Option (Nat×Bool)}{z:List Value}(hu:P.underlying t=some (.array n e))(ht:TI P t n by_ z)(hs:P.cellsOf e=1):
  (execOp ev0 ⟨dd, .build t #[],ty,pos,af,g⟩).run P w= .ok (.value (.agg z.toArray)) w:=by
 obtain⟨i,v,i1,i2,i3,i4,i5⟩:=ht;have hz1:(zeroValue t).run P w= .ok v w:=by simp[zeroValue,typeInfo,i1,i4]
 have hsz:(sizeOf e).run P w= .ok 1 w:=size_run hs (by decide);simp[execOp,Instr.build,Sem.run_bind,hz1,Result.andThen,run_underlying hu,hsz,i5,Instr.fill]
theorem J.bz{ops:Array Oper}{rest:List (Oper×Kd)}{l':List Value}{m:Md}{kd:Kd}{d:Tmp}{ty xt e n by_:Nat}{pos:String}{af:Array Edge}{zs:List Value}[U:Und P xt (.array n e)][I:Inf P xt n by_ zs][Z:Siz P e 1](hk:pureK kd=true)(k:J S0 w0 L (RY S0 w0 m P ops K rest l'))(hl:l.set d (.agg zs.toArray)=l':=by dsimp only[List.set]):
  J S0 w0 L (RY S0 w0 m P ops K ((⟨some d, .build xt #[],ty,pos,af,none⟩,kd)::rest) l):=J.pur hk (fun _=>D.buildA0 U.h I.h Z.h) k hl
end
end G
namespace W
open Go.RowKit G
set_option maxRecDepth 20000
set_option maxHeartbeats 8000000
attribute [local irreducible] RS RX RY Code.wp bodyPost J Ent.blk Ent.irow Ent.iown Ent.wrow Ent.wown Ent.gown Ent.all Ent.emp
theorem ins_bd{ids x:List Int}{p:Nat}(h:Bd .u8 ids)(hx:Bd .u8 x):Bd .u8 (S.insW ids p x):=fun y hy=>by
 unfold S.insW at hy;rcases List.mem_append.1 hy with k|k
 ·exact h y (List.mem_of_mem_take k)
 rcases List.mem_append.1 k with k|k
 ·exact hx y k
 exact h y (List.mem_of_mem_drop k)
instance:Ents prog 230:=⟨.mk func230 (by kernel_rfl) rfl⟩
@[reducible] def GrA.P(g:GrA):S.PG:=⟨g.m,g.ids,g.ops⟩
def GrA.nil:GrA:=⟨none,none,0,0,0,0,[],[]⟩
theorem GrP.nil:GrP S.PG.nil.m S.PG.nil.ids S.PG.nil.ops GrA.nil:=⟨rfl,rfl,rfl,rfl,fun z hz=>by cases hz⟩
theorem J.nilGr{S0:Nat→Prop}{w0:World}{L:List Ent}{X:World→Prop}(TI TO:TypeId)(k:J S0 w0 (.gown opC 11 TO none 0 0 []:: .all []:: .wown TI .u8 32 none 0 0 []::L) X):J S0 w0 L X:=J.nilWo TI .u8 32 (J.noA (J.nilG opC 11 TO opC_len k))
theorem blkC{S0:Nat→Prop}{w0 w:World}{L:List Ent}(b:Nat){cs:List Value}{T:TypeId}{F:List Value→List Ent}[R:RB L b cs T F](M:Mem S0 w0 L w):Blk w b cs T:=M.blk (R.h cs).same
structure OfA where
 (i:Nat)(q:GrA)(P:S.PG)
theorem mk_ok{l:List S.OpV}(hl:∀o∈l,o.ok){i:Nat}(hi:i≤l.length){g:S.PG}(h:S.mkN l i=some g):∀o∈g.ops,o.ok:=fun o ho=>by
 obtain⟨h1,h2,h3,h4⟩:=S.mkN_good h;obtain⟨j,hj,rfl⟩:=List.getElem_of_mem ho;obtain⟨k,hk,_,e⟩:=(h4 (S.idAt g.ids j) g.ops[j]).1 ⟨j,by have:=h1.2;omega,rfl,by rw[List.getD_eq_getElem?_getD,List.getElem?_eq_getElem hj];rfl⟩;rw[e,List.getD_eq_getElem?_getD,List.getElem?_eq_getElem (by omega)];exact hl _ (List.getElem_mem _)
theorem eqIDs{S0 S1:Nat→Prop}(a:Option Addr)(n c:Nat)(xs:List Int)(a2:Option Addr)(n2 c2:Nat)(ys:List Int)(w:World)(D0:WRow .u8 32 S0 w a n xs)(D1:WRow .u8 32 S1 w a2 n2 ys)(hn:n≤1000)(hn2:n2≤1000):
  Calls prog 238 #[.slice a n c, .slice a2 n2 c2] w (Ret w fun v _=>v= .bool (decide (xs=ys))):=by
 have hl0:=D0.len;have hl1:=D1.len;refine J.enter 24 func238 rfl rfl ?_;refine run ?_;refine J.ifn rfl (fun c1=>?_) (fun c1=>?_)
 ·refine run ?_;exact J.fin (congrArg _ (decide_eq_false fun h=>c1 (by have:=congrArg List.length h;omega)).symm)
 obtain rfl:n2=n:=by omega
 refine run ?_;refine J.loopS (A:=Int) (fun p=>[(13, .int .i64 p)]) [4,5,14,15,16,17,18,19,20,21,22,23,24,25] (fun p=>(0≤p∧p≤n2)∧∀i,i<p.toNat→S.idAt xs i=S.idAt ys i) (fun p=>n2 - p.toNat) 0 (by kernel_rfl) ⟨by omega,fun i hi=>by omega⟩ (fun p j hI=>?_);obtain⟨h1,hI⟩:=hI;refine run ?_;refine J.ifd rfl (fun c2=>?_) (fun c2=>?_)
 ·refine run ?_;refine J.regionX [(0, .q),(1, .q),(2, .q),(3, .q),(4, .q),(5, .q),(6, .q),(7, .q),(8, .q)] mixed (by kernel_rfl) ?_;refine run ?_;refine J.ifd rfl (fun c3=>?_) (fun c3=>?_)
  ·refine run ?_;exact J.fin (congrArg _ (decide_eq_false fun h=>c3 (by rw[h])).symm)
  refine run ?_;refine J.nextS (p+1) ⟨rfl,trivial⟩ (by kernel_rfl) ⟨by omega,fun i hi=>?_⟩ (by omega);rcases Nat.lt_or_ge i p.toNat with h|h
  ·exact hI i h
  obtain rfl:i=p.toNat:=by omega
  exact Classical.not_not.1 c3
 refine run ?_;exact J.fin (congrArg _ (decide_eq_true (S.ids_ext hl0 hl1 fun i hi=>hI i (by omega))).symm)
end W
namespace S
open G
theorem chkP_fine{g:PG}(hl:g.ids.length=32*g.m):chkP g=0↔g.fine:=chk_fine hl
theorem getD_at{α:Type}{l:List α}{d:α}{i:Nat}(h:i<l.length):l.getD i d=l[i]:=by rw[List.getD_eq_getElem?_getD,List.getElem?_eq_getElem h];rfl
theorem ord_all{g:PG}{xs:List (List Int)}(h:OrdP g xs){y:List Int}(hy:inS g.m g.ids y):y∈xs:=by
 obtain⟨h1,h2,h3,h4⟩:=h
 have hall := nodup_all (l := xs.map (ixS g.m g.ids)) (N := g.m) (nodup_map_on (fun a ha b hb e => by rw [← (ix_in (h2 a ha)).2, e, (ix_in (h2 b hb)).2]) h1) (fun i hi => by
  obtain ⟨a, ha, rfl⟩ := List.mem_map.1 hi
  exact (ix_in (h2 a ha)).1) (by rw [List.length_map]; exact h3) (ix_in hy).1
 obtain⟨a,ha,e⟩:=List.mem_map.1 hall;have:a=y:=by rw[←(ix_in (h2 a ha)).2,e,(ix_in hy).2]
 exact this▸ha
theorem fine_shape{g:PG}(hg:g.fine):shapeS g.m g.ids g.ops=0:=by
 obtain⟨_,_,_,h4,h5,h6⟩:=chkG_zero.1 ((chk_fine hg.good.1).2 hg);unfold shapeS;rw[if_neg (not_not_intro h4),if_neg (not_not_intro h5),if_pos h6]
theorem nil_fine:PG.nil.fine:=⟨nil_good,Nat.zero_le _,nil_rising,fun x o h=>absurd h (nil_has x o),fun x o h=>absurd h (nil_has x o),[],List.nodup_nil,fun x h=>(by cases h),Nat.le_refl _,fun i h=>absurd h (Nat.not_lt_zero _)⟩
/-! lists -/
theorem mkN_nodup{l:List OpV}(h:(l.map idOf).Nodup):∀i,i≤l.length→∃g,mkN l i=some g
 |0,_=>⟨.nil,rfl⟩
 |i+1,hi=>by
  obtain⟨g,hg⟩:=mkN_nodup h i (by omega);have hn:¬inS g.m g.ids (idOf (l.getD i OpV.zero)):=fun hin=>by
   obtain⟨o,ho⟩:=has_in.1 hin;obtain⟨k,hk,e,_⟩:=((mkN_good hg).2.2.2 _ _).1 ho;have h1:i<l.length:=by omega
   have h2:k<l.length:=by omega
   have hp:=List.pairwise_iff_getElem.1 h k i (by rw[List.length_map];exact h2) (by rw[List.length_map];exact h1) hk;apply hp;rw[List.getElem_map,List.getElem_map,←getD_at (d:=OpV.zero) h1,←getD_at (d:=OpV.zero) h2];exact e.symm
  exact⟨_,mkN_more hg hn⟩
theorem fine_idOf{g:PG}(hg:g.fine){i:Nat}(hi:i<g.m):idOf (g.ops.getD i OpV.zero)=idAt g.ids i:=(hg.own _ _ ⟨i,hi,rfl,rfl⟩).2
theorem fine_map{g:PG}(hg:g.fine):g.ops.map idOf=idsP g:=by
 apply List.ext_getElem
 ·rw[List.length_map,hg.good.2];simp[idsP]
 ·intro i h1 h2;rw[List.length_map]at h1;have hi:i<g.m:=by rw[←hg.good.2];exact h1
  have e:=fine_idOf hg hi;rw[getD_at h1]at e;rw[List.getElem_map];refine e.trans ?_;simp[idsP]
theorem idsP_nodup{g:PG}(hr:Rising g.m g.ids):(idsP g).Nodup:=(idsP_sorted hr).imp fun {a b} h e=>by subst e;rw[cmpS_self]at h;exact absurd h (by decide)
theorem lst_perm{g:PG}(hg:g.fine){l:List OpV}(hp:l.Perm g.ops):lstE l=0∧lstP l=g:=by
 have hlen:l.length=g.m:=hp.length_eq.trans hg.good.2;have hn:(l.map idOf).Nodup:=by
  have h1:(l.map idOf).Perm (g.ops.map idOf):=hp.map _;rw[fine_map hg]at h1;exact h1.nodup_iff.2 (idsP_nodup hg.rising)
 obtain⟨q,hq⟩:=mkN_nodup hn l.length (Nat.le_refl _);obtain⟨q1,q2,q3,q4⟩:=mkN_good hq;have e:q=g:=PG.ext_has q1 hg.good q2 hg.rising fun x o=>by
  rw[q4];constructor
  ·rintro⟨k,hk,rfl,rfl⟩;have hm:l.getD k OpV.zero∈g.ops:=hp.mem_iff.1 (by rw[getD_at hk];exact List.getElem_mem hk);obtain⟨i,hi,ei⟩:=List.getElem_of_mem hm;rw[←getD_at (d:=OpV.zero) hi]at ei;have him:i<g.m:=by rw[←hg.good.2];exact hi
   exact⟨i,him,by rw[←fine_idOf hg him,ei],ei⟩
  ·rintro⟨i,hi,rfl,rfl⟩;have h2:i<g.ops.length:=by rw[hg.good.2];exact hi
   have hm:g.ops.getD i OpV.zero∈l:=hp.mem_iff.2 (by rw[getD_at h2];exact List.getElem_mem h2);obtain⟨k,hk,ek⟩:=List.getElem_of_mem hm;rw[←getD_at (d:=OpV.zero) hk]at ek;exact⟨k,hk,by rw[ek,fine_idOf hg hi],ek.symm⟩
 have hv:verL l=0:=verL_zero.2 fun o ho=>by
  obtain⟨i,hi,ei⟩:=List.getElem_of_mem (hp.mem_iff.1 ho);rw[←getD_at (d:=OpV.zero) hi]at ei;have:=(hg.own _ _ ⟨i,by rw[←hg.good.2];exact hi,rfl,rfl⟩).1;rwa[ei]at this
 have h60:¬60<l.length:=by have:=hg.le;omega
 have hs:=lstE_s h60 hv hq;rw[e,fine_shape hg]at hs;exact⟨hs,by rw[lstP_yes hs hq,e]⟩
/-! one by one -/
/-! what is added -/
theorem add_fine{g:PG}{o:OpV}(hl:g.ids.length=32*g.m)(h:addE g o=0):g.fine∧¬inS g.m g.ids (idOf o)∧(addP g o).fine∧(addP g o).m=g.m+1∧addI g o=idOf o∧∀y u,(addP g o).has y u↔g.has y u∨(y=idOf o∧u=o):=by
 obtain⟨h1,h2,h3,h4,h5⟩:=addE_zero.1 h;have hg:=(chk_fine hl).1 h1;obtain⟨e1,e2⟩:=addP_yes h;have:=hg.le;refine⟨hg,h3,?_,?_,e2,?_⟩
 ·rw[e1];exact fine_put hg ⟨h2,rfl⟩ (idOf_len _) h3 h4 (by omega)
 ·rw[e1];rfl
 ·rw[e1];exact putP_has hg.good (idOf_len _) o
/-! unions -/
/-! comparisons -/
end S
namespace W
open Go.RowKit G
set_option maxRecDepth 20000
set_option maxHeartbeats 8000000
attribute [local irreducible] RS RX RY Code.wp bodyPost J Ent.blk Ent.irow Ent.iown Ent.wrow Ent.wown Ent.gown Ent.all Ent.emp
instance:Ents prog 106:=⟨.mk func106 (by kernel_rfl) rfl⟩
instance:Ents prog 157:=⟨.mk func157 (by kernel_rfl) rfl⟩
instance:Ents prog 93:=⟨.mk func93 (by kernel_rfl) rfl⟩
theorem wrow_grow{S0:Nat→Prop}{w:World}{a:Option Addr}{n:Nat}{xs:List Int}{l:List IdV}(he:flatI l=xs)(hn:l.length=n)(h:WRow .u8 32 S0 w a n xs):GRow idC 32 S0 w a n l:=⟨by rw[flatI_cells,he];exact h.row,hn,idC_len⟩
theorem rgTake{α:Type}{S0:Nat→Prop}{w0:World}{L:List Ent}{f:α→List Value}{sz n:Nat}{a:Option Addr}{lst:List α}(h:RG S0 w0 L f sz a n lst)(p c:Nat)(hp:p≤n)(hc:p≤c):RG S0 w0 L f sz (subA a 0 sz c) p (lst.take p):=by
 have:=h.sub 0 p c hp (Nat.zero_le _) hc;simpa using this
theorem rgDrop{α:Type}{S0:Nat→Prop}{w0:World}{L:List Ent}{f:α→List Value}{sz n:Nat}{a:Option Addr}{lst:List α}(h:RG S0 w0 L f sz a n lst)(p c:Nat)(hp:p≤n)(hc:n≤c)(hl:lst.length=n):RG S0 w0 L f sz (subA a p sz c) (n - p) (lst.drop p):=by
 have:=h.sub p n c (Nat.le_refl _) hp hc;rwa[List.take_of_length_le (by rw[List.length_drop];omega)]at this
theorem insO_map(zs:List OpA)(p:Nat)(z:OpA):(zs.take p++z::zs.drop p).map OpA.o=S.insO (zs.map OpA.o) p z.o:=by
 unfold S.insO;rw[List.map_append,List.map_cons,List.map_take,List.map_drop]
theorem refPut{S0 S1:Nat→Prop}(g:GrA)(x:List Int)(z:OpA)(w:World)(G:GrR S0 w g)(hx:Arr .u8 32 x)(RZ:OpR S1 w z)(hmn:g.n=g.m)(hm:g.m≤61):
  Calls prog 93 #[.agg (grC g).toArray, .agg (ints .u8 x).toArray, .agg (opC z).toArray] w (Gv w (fun q:GrA=> .agg (grC q).toArray) (grE 24 37) (GrP (g.m+1) (S.insW g.ids (S.spotS g.m g.ids x) x) (S.insO g.ops (S.spotS g.m g.ids x) z.o))):=by
 have D0:=G.ids;have G0:=G.ops;have hl:=G.len;have hcp:=G.cap;have hzl:=G0.len;obtain⟨ids,hl1,hl2⟩:=chunks g.m g.ids D0.len;have GI:=wrow_grow hl2 hl1 D0;refine J.enter 56 func93 rfl rfl ?_;refine run ?_;refine J.box rfl rfl rfl fun b1=>?_
 refine J.box rfl rfl rfl fun b2=>?_
 refine J.box rfl rfl rfl fun b3=>?_
 refine J.alloc rfl fun b4=>?_
 refine run ?_;refine J.alloc rfl fun b7=>?_
 refine run ?_;refine J.loopS (A:=Int) (fun p=>[(8, .int .i64 p)]) [10,11,12,13,14,15,16,17,18,19,20,21,22,23,24,25,26] (fun p=>(0≤p∧p≤g.m)∧∀i,i<p.toNat→S.cmpS (S.idAt g.ids i) x<0) (fun p=>g.m - p.toNat) 0 (by kernel_rfl) ⟨by omega,fun i hi=>by omega⟩ (fun p j hI=>?_);obtain⟨h1,hI⟩:=hI;refine run ?_;refine J.joinX (A:=Bool) (fun u=>[(24, .bool u)]) [10,11,12,13,14,15,16,17,18,19,20,21,22,23] (fun _=>[.blk b7 [.slice none 0 0, .slice none 0 0] 43, .blk b4 [.slice none 0 0, .slice none 0 0] 43, .blk b3 (opC z) 37, .blk b2 (ints .u8 x) 24, .blk b1 (grC g) 43]) (fun u=>u=decide (p<g.m∧S.cmpS (S.idAt g.ids p.toNat) x<0)) ?_ (fun u j2 hu=>?_)
 ·refine J.regionX [(0, .q),(1, .q),(2, .q),(3, .q),(4, .q),(5, .q),(6, .q),(7, .q),(8, .q),(9, .q),(10, .q),(11, .q),(12, .e),(13, .q),(14, .q)] mixed (by kernel_rfl) ?_;refine run ?_;refine J.spd rfl rfl rfl (fun c1=>?_) (fun c1=>?_)
  ·refine run ?_;refine J.callp rfl rfl (fun w' M=>rcmp _ _ (D0.elt_arr (by omega)) hx w') ?_;refine run ?_;exact J.cut _ ⟨rfl,trivial⟩ (by kernel_rfl) (decide_eq_decide.2 ⟨fun h=>⟨c1,h⟩,fun h=>h.2⟩)
  refine run ?_;exact J.cut _ ⟨rfl,trivial⟩ (by kernel_rfl) (decide_eq_false fun h=>c1 h.1).symm
 subst hu;refine run ?_;refine J.ifd rfl (fun c2=>?_) (fun c2=>?_)
 ·refine run ?_;refine J.nextS (p+1) ⟨rfl,trivial⟩ (by kernel_rfl) ⟨by omega,fun i hi=>?_⟩ (by omega);rcases Nat.lt_or_ge i p.toNat with e|e
  ·exact hI i e
  obtain rfl:i=p.toNat:=by omega
  exact c2.2
 have hsp:S.spotS g.m g.ids x=p.toNat:=S.spotC_eq (by omega) hI fun hlt=>by
  have:¬S.cmpS (S.idAt g.ids p.toNat) x<0:=fun e=>c2 ⟨by omega,e⟩;show 0≤S.cmpS (S.idAt g.ids p.toNat) x;omega
 rw[hsp];have hcv:flatI (ids.take p.toNat++(⟨x,hx.1⟩:IdV)::ids.drop p.toNat)=S.insW g.ids p.toNat x:=by rw[flatI_ins,hl2]
 have hbd:Bd .u8 (S.insW g.ids p.toNat x):=ins_bd D0.bd hx.2;have hnn:p.toNat+1+(g.m - p.toNat)=g.m+1:=by omega
 have hnn2:p.toNat+1+(g.n - p.toNat)=g.m+1:=by omega
 refine run ?_;refine J.joinX (A:=Option Addr×Nat) (fun u=>[]) [27,28,29,30,31,32,33,34,35,36,37,38,39,40,41] (fun u=>[.blk b7 [.slice u.1 (g.m+1) u.2, .slice none 0 0] 43, .wown 24 .u8 32 u.1 (g.m+1) u.2 (S.insW g.ids p.toNat x), .blk b4 [.slice none 0 0, .slice none 0 0] 43, .blk b3 (opC z) 37, .blk b2 (ints .u8 x) 24, .blk b1 (grC g) 43]) (fun _=>True) ?_ (fun u j3 _=>?_)
 ·refine J.regionW [.blk b2 (ints .u8 x) 24, .blk b1 (grC g) 43] mixed ?_;refine J.wnode [(1, .q),(2, .q),(3, .q),(4, .q),(6, .q),(9, .q),(10, .q),(11, .q),(12, .q)] [0,7] 6 #[false,true,true,true,true,false,true,false,false,true,true,true,true,false,false,false] (by kernel_rfl) ?_;refine run ?_;refine J.nil ?_;refine J.wbr ?_ ?_
  ·refine J.b0G idC idC_len rfl fun bi=>?_
   refine J.nil ?_;refine J.wnode [] [5,7] 5 #[true,true,true,true,true,false,true,false,false,true,true,true,true,false,false,false] (by kernel_rfl) ?_;refine run ?_;refine J.nil ?_;refine J.wbr ?_ ?_
   ·refine J.apG (n2:=p.toNat) rfl rfl (rgTake (RG.arg GI) p.toNat g.ic (by omega) (by omega)) idC_one fun a1 c1=>?_
    rw[Nat.zero_add p.toNat,List.nil_append (ids.take p.toNat)];refine J.nil ?_;refine J.wfin [(7, .e),(8, .e),(13, .e),(14, .q),(15, .e)] (by kernel_rfl) ?_;refine run ?_;refine J.b1G idC ⟨x,hx.1⟩ idC_len rfl rfl rfl fun bx=>?_
    refine run ?_;refine J.apG rfl rfl RG.own' idC_one fun a2 c2=>?_
    refine run ?_;refine J.apG (n2:=g.m - p.toNat) rfl rfl (rgDrop (RG.arg GI) p.toNat g.ic (by omega) (by omega) hl1) idC_one fun a3 c3=>?_
    rw[hnn,List.append_assoc (ids.take p.toNat) [(⟨x,hx.1⟩:IdV)] (ids.drop p.toNat),List.singleton_append (x:=(⟨x,hx.1⟩:IdV)) (l:=ids.drop p.toNat)];refine run ?_;refine run ?_;refine J.re (.gown idC 32 24 a3 (g.m+1) c3 (ids.take p.toNat++(⟨x,hx.1⟩:IdV)::ids.drop p.toNat)) (.wown 24 .u8 32 a3 (g.m+1) c3 (S.insW g.ids p.toNat x)) (fun _ _ h=>hcv▸gown_wown (hcv.symm▸hbd) h) ?_;refine J.front (.wown 24 .u8 32 a3 (g.m+1) c3 (S.insW g.ids p.toNat x)) ?_;refine J.front (.blk b7 [.slice a3 (g.m+1) c3, .slice none 0 0] 43) ?_;exact J.cut (a3,c3) trivial (by kernel_rfl) trivial
   refine J.wbr ?_ ?_
   ·refine J.b1G idC ⟨x,hx.1⟩ idC_len rfl rfl rfl fun bx=>?_
    refine J.nil ?_;refine J.wfin [(5, .e),(8, .e),(13, .e),(14, .q),(15, .e)] (by kernel_rfl) ?_;refine run ?_;refine J.apG (n2:=p.toNat) rfl rfl (rgTake (RG.arg GI) p.toNat g.ic (by omega) (by omega)) idC_one fun a1 c1=>?_
    rw[Nat.zero_add p.toNat,List.nil_append (ids.take p.toNat)];refine run ?_;refine J.apG rfl rfl RG.own' idC_one fun a2 c2=>?_
    refine run ?_;refine J.apG (n2:=g.m - p.toNat) rfl rfl (rgDrop (RG.arg GI) p.toNat g.ic (by omega) (by omega) hl1) idC_one fun a3 c3=>?_
    rw[hnn,List.append_assoc (ids.take p.toNat) [(⟨x,hx.1⟩:IdV)] (ids.drop p.toNat),List.singleton_append (x:=(⟨x,hx.1⟩:IdV)) (l:=ids.drop p.toNat)];refine run ?_;refine run ?_;refine J.re (.gown idC 32 24 a3 (g.m+1) c3 (ids.take p.toNat++(⟨x,hx.1⟩:IdV)::ids.drop p.toNat)) (.wown 24 .u8 32 a3 (g.m+1) c3 (S.insW g.ids p.toNat x)) (fun _ _ h=>hcv▸gown_wown (hcv.symm▸hbd) h) ?_;refine J.front (.wown 24 .u8 32 a3 (g.m+1) c3 (S.insW g.ids p.toNat x)) ?_;refine J.front (.blk b7 [.slice a3 (g.m+1) c3, .slice none 0 0] 43) ?_;exact J.cut (a3,c3) trivial (by kernel_rfl) trivial
   exact J.wbr0
  refine J.wbr ?_ ?_
  ·refine J.b1G idC ⟨x,hx.1⟩ idC_len rfl rfl rfl fun bx=>?_
   refine J.nil ?_;refine J.wfin [(0, .e),(5, .e),(8, .e),(13, .e),(14, .q),(15, .e)] (by kernel_rfl) ?_;refine run ?_;refine J.b0G idC idC_len rfl fun bi=>?_
   refine run ?_;refine J.apG (n2:=p.toNat) rfl rfl (rgTake (RG.arg GI) p.toNat g.ic (by omega) (by omega)) idC_one fun a1 c1=>?_
   rw[Nat.zero_add p.toNat,List.nil_append (ids.take p.toNat)];refine run ?_;refine J.apG rfl rfl RG.own' idC_one fun a2 c2=>?_
   refine run ?_;refine J.apG (n2:=g.m - p.toNat) rfl rfl (rgDrop (RG.arg GI) p.toNat g.ic (by omega) (by omega) hl1) idC_one fun a3 c3=>?_
   rw[hnn,List.append_assoc (ids.take p.toNat) [(⟨x,hx.1⟩:IdV)] (ids.drop p.toNat),List.singleton_append (x:=(⟨x,hx.1⟩:IdV)) (l:=ids.drop p.toNat)];refine run ?_;refine run ?_;refine J.re (.gown idC 32 24 a3 (g.m+1) c3 (ids.take p.toNat++(⟨x,hx.1⟩:IdV)::ids.drop p.toNat)) (.wown 24 .u8 32 a3 (g.m+1) c3 (S.insW g.ids p.toNat x)) (fun _ _ h=>hcv▸gown_wown (hcv.symm▸hbd) h) ?_;refine J.front (.wown 24 .u8 32 a3 (g.m+1) c3 (S.insW g.ids p.toNat x)) ?_;refine J.front (.blk b7 [.slice a3 (g.m+1) c3, .slice none 0 0] 43) ?_;exact J.cut (a3,c3) trivial (by kernel_rfl) trivial
  exact J.wbr0
 obtain⟨ia,ic⟩:=u;dsimp only;refine run ?_;refine J.joinX (A:=Option Addr×Nat) (fun u=>[]) [42,43,44,45,46,47,48,49,50,51,52,53,54,55,56] (fun u=>[.blk b7 [.slice ia (g.m+1) ic, .slice u.1 (g.m+1) u.2] 43, .gown opC 11 37 u.1 (g.m+1) u.2 (g.zs.take p.toNat++z::g.zs.drop p.toNat), .wown 24 .u8 32 ia (g.m+1) ic (S.insW g.ids p.toNat x), .blk b4 [.slice none 0 0, .slice none 0 0] 43, .blk b3 (opC z) 37, .blk b2 (ints .u8 x) 24, .blk b1 (grC g) 43]) (fun _=>True) ?_ (fun u j4 _=>?_)
 ·refine J.regionW [.blk b3 (opC z) 37, .blk b1 (grC g) 43] mixed ?_;refine J.wnode [(1, .q),(2, .q),(3, .q),(4, .q),(6, .q),(9, .q),(10, .q),(11, .q),(12, .q)] [0,7] 6 #[false,true,true,true,true,false,true,false,false,true,true,true,true,false,false,false] (by kernel_rfl) ?_;refine run ?_;refine J.nil ?_;refine J.wbr ?_ ?_
  ·refine J.b0G opC opC_len rfl fun bi=>?_
   refine J.nil ?_;refine J.wnode [] [5,7] 5 #[true,true,true,true,true,false,true,false,false,true,true,true,true,false,false,false] (by kernel_rfl) ?_;refine run ?_;refine J.nil ?_;refine J.wbr ?_ ?_
   ·refine J.apG (n2:=p.toNat) rfl rfl (rgTake (RG.arg G0) p.toNat g.oc (by omega) (by omega)) opC_one fun a1 c1=>?_
    rw[Nat.zero_add p.toNat,List.nil_append (g.zs.take p.toNat)];refine J.nil ?_;refine J.wfin [(7, .e),(8, .e),(13, .e),(14, .q),(15, .e)] (by kernel_rfl) ?_;refine run ?_;refine J.b1G opC z opC_len rfl rfl rfl fun bx=>?_
    refine run ?_;refine J.apG rfl rfl RG.own' opC_one fun a2 c2=>?_
    refine run ?_;refine J.apG (n2:=g.n - p.toNat) rfl rfl (rgDrop (RG.arg G0) p.toNat g.oc (by omega) (by omega) hzl) opC_one fun a3 c3=>?_
    rw[hnn2,List.append_assoc (g.zs.take p.toNat) [z] (g.zs.drop p.toNat),List.singleton_append (x:=z) (l:=g.zs.drop p.toNat)];refine run ?_;refine run ?_;refine J.front (.wown 24 .u8 32 ia (g.m+1) ic (S.insW g.ids p.toNat x)) ?_;refine J.front (.gown opC 11 37 a3 (g.m+1) c3 (g.zs.take p.toNat++z::g.zs.drop p.toNat)) ?_;refine J.front (.blk b7 [.slice ia (g.m+1) ic, .slice a3 (g.m+1) c3] 43) ?_;exact J.cut (a3,c3) trivial (by kernel_rfl) trivial
   refine J.wbr ?_ ?_
   ·refine J.b1G opC z opC_len rfl rfl rfl fun bx=>?_
    refine J.nil ?_;refine J.wfin [(5, .e),(8, .e),(13, .e),(14, .q),(15, .e)] (by kernel_rfl) ?_;refine run ?_;refine J.apG (n2:=p.toNat) rfl rfl (rgTake (RG.arg G0) p.toNat g.oc (by omega) (by omega)) opC_one fun a1 c1=>?_
    rw[Nat.zero_add p.toNat,List.nil_append (g.zs.take p.toNat)];refine run ?_;refine J.apG rfl rfl RG.own' opC_one fun a2 c2=>?_
    refine run ?_;refine J.apG (n2:=g.n - p.toNat) rfl rfl (rgDrop (RG.arg G0) p.toNat g.oc (by omega) (by omega) hzl) opC_one fun a3 c3=>?_
    rw[hnn2,List.append_assoc (g.zs.take p.toNat) [z] (g.zs.drop p.toNat),List.singleton_append (x:=z) (l:=g.zs.drop p.toNat)];refine run ?_;refine run ?_;refine J.front (.wown 24 .u8 32 ia (g.m+1) ic (S.insW g.ids p.toNat x)) ?_;refine J.front (.gown opC 11 37 a3 (g.m+1) c3 (g.zs.take p.toNat++z::g.zs.drop p.toNat)) ?_;refine J.front (.blk b7 [.slice ia (g.m+1) ic, .slice a3 (g.m+1) c3] 43) ?_;exact J.cut (a3,c3) trivial (by kernel_rfl) trivial
   exact J.wbr0
  refine J.wbr ?_ ?_
  ·refine J.b1G opC z opC_len rfl rfl rfl fun bx=>?_
   refine J.nil ?_;refine J.wfin [(0, .e),(5, .e),(8, .e),(13, .e),(14, .q),(15, .e)] (by kernel_rfl) ?_;refine run ?_;refine J.b0G opC opC_len rfl fun bi=>?_
   refine run ?_;refine J.apG (n2:=p.toNat) rfl rfl (rgTake (RG.arg G0) p.toNat g.oc (by omega) (by omega)) opC_one fun a1 c1=>?_
   rw[Nat.zero_add p.toNat,List.nil_append (g.zs.take p.toNat)];refine run ?_;refine J.apG rfl rfl RG.own' opC_one fun a2 c2=>?_
   refine run ?_;refine J.apG (n2:=g.n - p.toNat) rfl rfl (rgDrop (RG.arg G0) p.toNat g.oc (by omega) (by omega) hzl) opC_one fun a3 c3=>?_
   rw[hnn2,List.append_assoc (g.zs.take p.toNat) [z] (g.zs.drop p.toNat),List.singleton_append (x:=z) (l:=g.zs.drop p.toNat)];refine run ?_;refine run ?_;refine J.front (.wown 24 .u8 32 ia (g.m+1) ic (S.insW g.ids p.toNat x)) ?_;refine J.front (.gown opC 11 37 a3 (g.m+1) c3 (g.zs.take p.toNat++z::g.zs.drop p.toNat)) ?_;refine J.front (.blk b7 [.slice ia (g.m+1) ic, .slice a3 (g.m+1) c3] 43) ?_;exact J.cut (a3,c3) trivial (by kernel_rfl) trivial
  exact J.wbr0
 obtain⟨oa,oc⟩:=u;dsimp only;have hins:∀y,y∈g.zs.take p.toNat++z::g.zs.drop p.toNat→y∈g.zs∨y=z:=fun y hy=>by
  rcases List.mem_append.1 hy with k|k
  ·exact .inl (List.mem_of_mem_take k)
  rcases List.mem_cons.1 k with e|k
  ·exact .inr e
  exact .inl (List.mem_of_mem_drop k)
 refine J.fact (.wown 24 .u8 32 ia (g.m+1) ic (S.insW g.ids p.toNat x)) (fun _ _ h=>(wown_len h).2) fun hci=>?_
 refine J.fact (.gown opC 11 37 oa (g.m+1) oc (g.zs.take p.toNat++z::g.zs.drop p.toNat)) (fun _ _ h=>(gown_e h).1.capn) fun hco=>?_
 refine run ?_
 refine J.call rfl rfl (fun w' M => refGTwin (S0 := fun _ => True) ⟨ia, oa, g.m + 1, g.m + 1, ic, oc, S.insW g.ids p.toNat x, g.zs.take p.toNat ++ z :: g.zs.drop p.toNat⟩ w' ((RW.own' (a := ia) w' M).elim fun _ k0 => (RG.own' (a := oa) w' M).elim fun _ k1 => ⟨k0.weaken fun _ _ _ => trivial, k1.weaken fun _ _ _ => trivial, fun y hy i hi => by
  obtain rfl := List.mem_singleton.1 hi
  rcases hins y hy with k | rfl
  ·have h1 := (G.ext M.ext).inn y k _ (List.mem_singleton.2 rfl)
   exact ⟨h1.1.weaken fun _ _ _ => trivial, h1.2⟩
  ·exact ⟨(RZ.ext M.ext).row.weaken fun _ _ _ => trivial, RZ.cap⟩, fun y hy => by
  rcases hins y hy with k | rfl
  ·exact G.ok y k
  exact RZ.ok, ⟨hci, hco, by dsimp only; omega, by dsimp only; omega⟩⟩)) fun q hq => ?_
 dsimp only[grE,List.cons_append,List.nil_append];refine run ?_;refine J.finG q rfl ?_ ?_
 ·obtain⟨q1,q2,q3,q4,q5⟩:=hq;have e:(GrA.mk ia oa (g.m+1) (g.m+1) ic oc (S.insW g.ids p.toNat x) (g.zs.take p.toNat++z::g.zs.drop p.toNat)).ops=S.insO g.ops p.toNat z.o:=insO_map _ _ _;exact⟨q1,q2,by rw[q3,e],by rw[q4,e],q5⟩
 unfold grE;repeat(first|exact List.nil_sublist _|refine List.Sublist.cons_cons _ ?_|refine List.Sublist.cons _ ?_)
theorem refOf{S0:Nat→Prop}(a:Option Addr)(n c:Nat)(zs:List OpA)(w:World)(O:GRow opC 11 S0 w a n zs)(I0:Inns opI S0 w zs)(hok:∀z∈zs,z.o.ok)(hn:n≤100000):
  Calls prog 15 #[.slice a n c] w (Gv w (fun q:GrA=> .tuple #[.agg (grC q).toArray, .int .i64 (S.lstE (zs.map OpA.o))]) (grE 24 37) (GrP (S.lstP (zs.map OpA.o)).m (S.lstP (zs.map OpA.o)).ids (S.lstP (zs.map OpA.o)).ops)):=by
 have hl:=O.len;obtain⟨ops,hops⟩:=ex (zs.map OpA.o);have hol:ops.length=n:=by rw[hops,List.length_map,hl]
 have ook:∀o∈ops,o.ok:=fun o ho=>by
  rw[hops]at ho;obtain⟨z,hz,rfl⟩:=List.mem_map.1 ho;exact hok z hz
 have opR:∀ {i:Nat} {z:OpA},zs[i]? =some z→OpR S0 w z∧ops.getD i S.OpV.zero=z.o:=fun {i z} h=>by
  have hm:=List.mem_of_getElem? h;have h1:=I0 z hm ⟨.u8,32,z.pa,z.o.n,z.pc,z.o.ids⟩ (List.mem_singleton.2 rfl);exact⟨⟨hok z hm,h1.1,h1.2⟩,by rw[hops,List.getD_eq_getElem?_getD,List.getElem?_map,h];rfl⟩
 rw[←hops];have nil:S.lstE ops≠0→GrP (S.lstP ops).m (S.lstP ops).ids (S.lstP ops).ops GrA.nil:=fun h=>by
  rw[S.lstP_no h];exact GrP.nil
 refine J.enter 60 func15 rfl rfl ?_;refine run ?_;refine J.alloc rfl fun b1=>?_
 refine run ?_;refine J.ifd rfl (fun c1=>?_) (fun c1=>?_)
 ·refine run ?_;have he:=S.lstE_4 (l:=ops) (by omega);refine J.nilGr 24 37 ?_;refine J.finG GrA.nil ?_ (nil (by rw[he];decide)) ?_
  ·rw[he];rfl
  unfold grE GrA.nil;repeat(first|exact List.nil_sublist _|refine List.Sublist.cons_cons _ ?_|refine List.Sublist.cons _ ?_)
 have h60:¬60<ops.length:=by omega
 refine run ?_;refine J.loopS (A:=Int) (fun p=>[(4, .int .i64 p)]) [3,12,13,14,15,16,17,18,19,20,21,22,23,24,25,26,27,28,29] (fun p=>(0≤p∧p≤n)∧∀k,k<p.toNat→S.verE (ops.getD k S.OpV.zero)=0) (fun p=>n - p.toNat) 0 (by kernel_rfl) ⟨by omega,fun i hi=>by omega⟩ (fun p j hI=>?_);obtain⟨h1,hI⟩:=hI;refine run ?_;refine J.ifd rfl (fun c2=>?_) (fun c2=>?_)
 ·obtain⟨z,hz⟩:=O.ex (i:=p) (by omega);obtain⟨R,hzo⟩:=opR hz;refine run ?_;refine J.callp rfl rfl (fun w' M=>verifyOR z.o R.ok _ _ _ (R.row.ext M.ext) R.cap) ?_;refine run ?_;refine J.ifn rfl (fun c3=>?_) (fun c3=>?_)
  ·refine run ?_;have hf:=S.verL_first (l:=ops) (i:=p.toNat) (by omega) hI (by rw[hzo];exact c3);rw[hzo]at hf;obtain⟨he,hne⟩:=S.lstE_v h60 (by rw[hf];exact c3);refine J.callp rfl rfl (fun w' M=>verifyOR z.o R.ok _ _ _ (R.row.ext M.ext) R.cap) ?_;refine run ?_;refine J.nilGr 24 37 ?_;refine J.finG GrA.nil ?_ (nil hne) ?_
   ·rw[he,hf];rfl
   unfold grE GrA.nil;repeat(first|exact List.nil_sublist _|refine List.Sublist.cons_cons _ ?_|refine List.Sublist.cons _ ?_)
  refine run ?_;refine J.nextS (p+1) ⟨rfl,trivial⟩ (by kernel_rfl) ⟨by omega,fun i hi=>?_⟩ (by omega);rcases Nat.lt_or_ge i p.toNat with h|h
  ·exact hI i h
  obtain rfl:i=p.toNat:=by omega
  rw[hzo];exact c3
 have hver:S.verL ops=0:=S.verL_all fun k hk=>hI k (by omega);have hv0:∀k,k<ops.length→S.verE (ops.getD k S.OpV.zero)=0:=fun k hk=>hI k (by omega);refine run ?_;refine J.alloc rfl fun b7=>?_
 refine run ?_;refine J.nilGr 24 37 ?_;refine J.front (.blk b7 [.slice none 0 0, .slice none 0 0] 43) ?_;refine J.drop (E:=[.blk b7 [.slice none 0 0, .slice none 0 0] 43, .gown opC 11 37 none 0 0 [], .all [], .wown 24 .u8 32 none 0 0 [], .blk b1 [.slice none 0 0, .slice none 0 0] 43]) sb ?_;refine J.loop (A:=OfA) (fun p=>[(6, .int .i64 (p.i:Nat))]) [3,7,30,31,32,33,34,35,36,37,38,39,40,41,42,43,44,45,46,47,48,49,50,51,52,53] (fun p=>[.blk b7 (grC p.q) 43, .gown opC 11 37 p.q.oa p.q.n p.q.oc p.q.zs, .all (p.q.zs.map (opE 24)), .wown 24 .u8 32 p.q.ia p.q.m p.q.ic p.q.ids, .blk b1 [.slice none 0 0, .slice none 0 0] 43]) (fun p=>p.i≤n∧S.mkN ops p.i=some p.P∧GrP p.P.m p.P.ids p.P.ops p.q) (fun p=>n - p.i) ⟨0,⟨none,none,0,0,0,0,[],[]⟩, .nil⟩ (by kernel_rfl) ⟨Nat.zero_le _,rfl,GrP.nil⟩ (fun p j hI2=>?_);obtain⟨hI1,hI2,hI3⟩:=hI2;have hmk:=S.mkN_good hI2;have hqn:p.q.n=p.q.m:=by have:=hI3.n;have:=hI3.m;have:=hmk.1.2;omega
 have hqm:p.q.m=p.i:=by have:=hI3.m;have:=hmk.2.2.1;omega
 have hqok:=hI3.ok (mk_ok ook (by omega) hI2);refine run ?_;refine J.ifd rfl (fun c4=>?_) (fun c4=>?_)
 ·obtain⟨z,hz⟩:=O.ex (i:=(p.i:Nat)) (by omega);rw[Int.toNat_natCast]at hz;obtain⟨R,hzo⟩:=opR hz;have hv1:=hv0 p.i (by omega);rw[hzo]at hv1;have hz0:=S.check_zero.1 (S.verE_check hv1);have hA:=S.sha_arr (S.encS z.o);refine run ?_;refine J.callp rfl rfl (fun w' M=>ofO z.o R.ok _ _ _ (R.row.ext M.ext) R.cap hz0.1 (fun hk=>S.fine4 hz0.2.2.2.2.2.2 hk)) ?_;refine run ?_;refine J.alloc rfl fun b9=>?_
  refine run ?_;refine J.callp rfl rfl (fun w' M=>(RW.own' (a:=p.q.ia) w' M).elim fun _ k0=>refAt _ _ _ _ _ w' k0 hA (by omega)) ?_;refine run ?_;refine J.ifd rfl (fun c5=>?_) (fun c5=>?_)
  ·have hin:S.inS p.q.m p.q.ids (S.idOf z.o):=Decidable.not_not.1 fun h=>absurd (S.at_neg.2 h) (Int.not_lt.2 c5);rw[hI3.m,hI3.ids]at hin;have he:=S.lstE_14 h60 hver (S.mkN_none (S.mkN_twice hI2 (by rw[hzo];exact hin)) _ (by omega));refine run ?_;refine J.nilGr 24 37 ?_;refine J.finG GrA.nil ?_ (nil (by rw[he];decide)) ?_
   ·rw[he];rfl
   unfold grE GrA.nil;repeat(first|exact List.nil_sublist _|refine List.Sublist.cons_cons _ ?_|refine List.Sublist.cons _ ?_)
  have hin:¬S.inS p.q.m p.q.ids (S.idOf z.o):=S.at_neg.1 (Int.not_le.1 c5);rw[hI3.m,hI3.ids]at hin;refine run ?_;refine J.regionX [(0, .q),(1, .q),(2, .q),(3, .q),(4, .q),(5, .q),(6, .e),(7, .g)] mixed (by kernel_rfl) ?_;refine run ?_;refine J.call rfl rfl (fun w' M=>refPut p.q _ z w' (GrR.own hqok hI3.cap (by omega) w' M) hA (R.ext M.ext) hqn (by omega)) fun q hq=>?_
  dsimp only[grE,List.cons_append,List.nil_append];refine run ?_;have hmore:=S.mkN_more hI2 (by rw[hzo];exact hin);rw[hzo]at hmore;have hq2:GrP (S.putP p.P (S.idOf z.o) z.o).m (S.putP p.P (S.idOf z.o) z.o).ids (S.putP p.P (S.idOf z.o) z.o).ops q:=by
   rw[hI3.m,hI3.ids,hI3.ops]at hq;exact hq
  refine J.front (.wown 24 .u8 32 q.ia q.m q.ic q.ids) ?_;refine J.front (.all (q.zs.map (opE 24))) ?_;refine J.front (.gown opC 11 37 q.oa q.n q.oc q.zs) ?_;refine J.front (.blk b7 (grC q) 43) ?_;exact J.next ⟨p.i+1,q,S.putP p.P (S.idOf z.o) z.o⟩ ⟨rfl,trivial⟩ (by kernel_rfl) ⟨by dsimp only;omega,hmore,hq2⟩ (by dsimp only;omega)
 have hpi:p.i=ops.length:=by omega
 rw[hpi]at hI2;have hs:=S.lstE_s h60 hver hI2;have hsq:S.shapeS p.q.m p.q.ids p.q.ops=S.lstE ops:=by rw[hI3.m,hI3.ids,hI3.ops,hs]
 refine run ?_;refine J.callp rfl rfl (fun w' M=>by have h:=refShape p.q w' (GrR.own hqok hI3.cap (by omega) w' M) (by omega);rw[hsq]at h;exact h) ?_;refine run ?_;refine J.ifn rfl (fun c5=>?_) (fun c5=>?_)
 ·refine run ?_;refine J.callp rfl rfl (fun w' M=>by have h:=refShape p.q w' (GrR.own hqok hI3.cap (by omega) w' M) (by omega);rw[hsq]at h;exact h) ?_;refine run ?_;refine J.nilGr 24 37 ?_;refine J.finG GrA.nil rfl (nil c5) ?_;unfold grE GrA.nil;repeat(first|exact List.nil_sublist _|refine List.Sublist.cons_cons _ ?_|refine List.Sublist.cons _ ?_)
 refine run ?_;have hq2:GrP (S.lstP ops).m (S.lstP ops).ids (S.lstP ops).ops p.q:=by rw[S.lstP_yes c5 hI2];exact hI3
 refine J.finG p.q ?_ hq2 ?_
 ·show Value.tuple _=Value.tuple _;rw[c5]
 unfold grE;repeat(first|exact List.nil_sublist _|refine List.Sublist.cons_cons _ ?_|refine List.Sublist.cons _ ?_)
theorem GrP.sz{P:S.PG}{q:GrA}(h:GrP P.m P.ids P.ops q)(hs:P.good∧P.m≤60):q.m≤70∧q.n≤70:=by
 have:=h.m;have:=h.n;have:=hs.1.2;omega
theorem GrP.P{P:S.PG}{q:GrA}(h:GrP P.m P.ids P.ops q):q.P=P:=by
 unfold GrA.P;rw[h.m,h.ids,h.ops]
theorem nil_size:S.PG.nil.good∧S.PG.nil.m≤60:=⟨S.nil_good,Nat.zero_le _⟩
theorem lst_made{l:List S.OpV}(h:S.lstE l=0):l.length≤60∧∃g,S.mkN l l.length=some g∧S.lstP l=g:=by
 have h60:¬60<l.length:=fun c=>by rw[S.lstE_4 c]at h;exact absurd h (by decide)
 have hv:S.verL l=0:=Classical.byContradiction fun c=>(S.lstE_v h60 c).2 h;cases hm:S.mkN l l.length with
 |none=>rw[S.lstE_14 h60 hv hm]at h;exact absurd h (by decide)
 |some g=>exact⟨by omega,g,rfl,S.lstP_yes h hm⟩
theorem lst_ok{l:List S.OpV}(hl:∀o∈l,o.ok):∀u∈(S.lstP l).ops,u.ok:=by
 by_cases h:S.lstE l=0
 ·obtain⟨_,g,h2,h3⟩:=lst_made h;rw[h3];exact mk_ok hl (Nat.le_refl _) h2
 rw[S.lstP_no h];exact fun u hu=>(by cases hu)
theorem lst_size(l:List S.OpV):(S.lstP l).good∧(S.lstP l).m≤60:=by
 by_cases h:S.lstE l=0
 ·obtain⟨h1,g,h2,h3⟩:=lst_made h;rw[h3];have:=S.mkN_good h2;exact⟨this.1,by rw[this.2.2.1];exact h1⟩
 rw[S.lstP_no h];exact nil_size
end W
namespace S
open G
theorem idAt_app{a b:List Int}{n:Nat}(ha:a.length=32*n)(i:Nat):idAt (a++b) i=if i<n then idAt a i else idAt b (i - n):=by
 unfold idAt;split
 ·rw[List.drop_append_of_le_length (by omega),List.take_append_of_le_length (by rw[List.length_drop];omega)]
 ·rw[List.drop_append,List.drop_of_length_le (by omega),List.nil_append,ha,show 32*i - 32*n=32*(i - n)by omega]
theorem inS_app{a b x:List Int}{n m:Nat}(ha:a.length=32*n):inS (n+m) (a++b) x↔inS n a x∨inS m b x:=by
 constructor
 ·rintro⟨i,hi,e⟩;rw[idAt_app ha]at e;split at e
  ·exact .inl ⟨i,by assumption,e⟩
  ·exact .inr ⟨i - n,by omega,e⟩
 ·rintro(⟨i,hi,e⟩|⟨i,hi,e⟩)
  ·exact⟨i,by omega,by rw[idAt_app ha,if_pos hi];exact e⟩
  ·exact⟨n+i,by omega,by rw[idAt_app ha,if_neg (by omega),show n+i - n=i by omega];exact e⟩
theorem inS_zero{a x:List Int}:¬inS 0 a x:=fun⟨i,hi,_⟩=>by omega
def nmI(ops:List OpV):List Int:=ops.flatMap OpV.ids
def nmN(ops:List OpV):Nat:=(ops.map OpV.n).foldl (· + ·) 0
theorem nmN_snoc(l:List OpV)(o:OpV):nmN (l++[o])=nmN l+o.n:=by unfold nmN;simp[List.foldl_append]
theorem nmI_snoc(l:List OpV)(o:OpV):nmI (l++[o])=nmI l++o.ids:=by unfold nmI;simp
theorem nm_len{l:List OpV}(h:∀o∈l,o.wide):(nmI l).length=32*nmN l:=by
 have:∀(k:Nat),k≤l.length→(nmI (l.take k)).length=32*nmN (l.take k):=by
  intro k
  induction k with
  |zero=>intro _;rfl
  |succ k ih=>
   intro hk;have hkl:k<l.length:=by omega
   rw[List.take_add_one,List.getElem?_eq_getElem hkl,Option.toList_some,nmI_snoc,nmN_snoc,List.length_append,ih (by omega)];have:=h _ (List.getElem_mem hkl);unfold OpV.wide at this;omega
 have:=this l.length (Nat.le_refl _);rwa[List.take_length]at this
def namI(P:Nat→List Nat)(k:Nat):List Nat:=(List.range k).flatMap P
theorem namI_snoc(P:Nat→List Nat)(k:Nat):namI P (k+1)=namI P k++P k:=by unfold namI;rw[List.range_succ,List.flatMap_append];simp
theorem mem_pr{m:Nat}{ids:List Int}{ops:List OpV}(hr:Rising m ids){k i:Nat}(ho:allI m ids (ops.getD k OpV.zero).n (ops.getD k OpV.zero).ids)(hi:i<m):i∈prS m ids ops k↔inS (ops.getD k OpV.zero).n (ops.getD k OpV.zero).ids (idAt ids i):=by
 unfold prS;rw[List.mem_map];constructor
 ·rintro⟨j,hj,e⟩;refine⟨j,List.mem_range.1 hj,?_⟩;rw[←e];exact(ix_in (ho j (List.mem_range.1 hj))).2.symm
 ·rintro⟨j,hj,e⟩;exact⟨j,List.mem_range.2 hj,by rw[e];exact ix_eq hr hi⟩
theorem named_iff{m:Nat}{ids:List Int}{ops:List OpV}(hr:Rising m ids)(ho:opensS m ids ops)(hw:∀o∈ops,o.wide){i:Nat}(hi:i<m):∀k,k≤ops.length→(inS (nmN (ops.take k)) (nmI (ops.take k)) (idAt ids i)↔i∈namI (prS m ids ops) k)
 |0,_=>by simp[namI,nmN,nmI,inS_zero]
 |k+1,hk=>by
  have hkl:k<ops.length:=by omega
  have ih:=named_iff hr ho hw hi k (by omega);have e:ops.getD k OpV.zero=ops[k]:=by rw[List.getD_eq_getElem?_getD,List.getElem?_eq_getElem hkl];rfl
  have hp:=mem_pr (ops:=ops) hr (ho k hkl) hi;rw[e]at hp;rw[List.take_add_one,List.getElem?_eq_getElem hkl,Option.toList_some,nmI_snoc,nmN_snoc,inS_app (nm_len fun o h=>hw o (List.mem_of_mem_take h)),ih,namI_snoc,List.mem_append,hp]
def selF(f:Nat→Bool)(ids:List Int):Nat→List Int
 |0=>[]
 |n+1=>selF f ids n++(if f n then idAt ids n else [])
def numF(f:Nat→Bool):Nat→Nat
 |0=>0
 |n+1=>numF f n+(if f n then 1 else 0)
theorem numF_le(f:Nat→Bool):∀n,numF f n≤n
 |0=>Nat.le_refl _
 |n+1=>by
  have:=numF_le f n;unfold numF;split<;>omega
theorem selF_congr{f g:Nat→Bool}{ids:List Int}:∀ {n:Nat},(∀i,i<n→f i=g i)→selF f ids n=selF g ids n
 |0,_=>rfl
 |n+1,h=>by unfold selF;rw[selF_congr fun i hi=>h i (by omega),h n (by omega)]
theorem numF_congr{f g:Nat→Bool}:∀ {n:Nat},(∀i,i<n→f i=g i)→numF f n=numF g n
 |0,_=>rfl
 |n+1,h=>by unfold numF;rw[numF_congr fun i hi=>h i (by omega),h n (by omega)]
def hdS(n:Nat)(rd:List Nat):List Bool:=(List.range n).map fun i=>decide (i∉rd)
theorem hdS_first(n:Nat):hdS n []=List.replicate n true:=by
 unfold hdS;apply List.ext_getElem
 ·simp
 ·intro i h1 h2;simp
theorem hdS_len(n:Nat)(rd:List Nat):(hdS n rd).length=n:=by simp[hdS]
theorem hdS_get{n i:Nat}(rd:List Nat)(h:i<n):(hdS n rd)[i]? =some (decide (i∉rd)):=by
 unfold hdS;rw[List.getElem?_map,List.getElem?_range h];rfl
theorem hdS_set{n i:Nat}(rd:List Nat)(h:i<n):(hdS n rd).set i false=hdS n (rd++[i]):=by
 apply List.ext_getElem?;intro j;rw[List.getElem?_set];by_cases hj:j<n
 ·rw[hdS_get (rd++[i]) hj,hdS_get rd hj];by_cases e:i=j
  ·subst e;rw[if_pos rfl,hdS_len,if_pos h];congr 1;exact(decide_eq_false (by simp)).symm
  ·rw[if_neg e];congr 1;rw[decide_eq_decide];simp[Ne.symm e]
 ·rw[if_neg (by omega),List.getElem?_eq_none (by rw[hdS_len];omega),List.getElem?_eq_none (by rw[hdS_len];omega)]
def hdF(m:Nat)(ids:List Int)(ops:List OpV)(i:Nat):Bool:=decide (i∉namI (prS m ids ops) ops.length)
def hdI(g:PG):List Int:=selF (hdF g.m g.ids g.ops) g.ids g.m
def hdN(g:PG):Nat:=numF (hdF g.m g.ids g.ops) g.m
theorem nmN_le{l:List OpV}{b:Nat}(h:∀o∈l,o.n≤b):∀k,nmN (l.take k)≤b*k
 |0=>by simp[nmN]
 |k+1=>by
  have ih:=nmN_le h k;rw[List.take_add_one];cases hk:l[k]? with
  |none=>rw[Option.toList_none,List.append_nil,Nat.mul_add];omega
  |some o=>
   have:=h o (List.mem_of_getElem? hk);rw[Option.toList_some,nmN_snoc,Nat.mul_add];omega
theorem chk_n4{m:Nat}{ids:List Int}{ops:List OpV}(h:chkG m ids ops=0):∀o∈ops,o.n≤4:=fun o ho=>by
 obtain⟨i,hi,rfl⟩:=List.mem_iff_getElem.1 ho;have:=((chkG_zero.1 h).2.2.1 i hi).1;rw[List.getD_eq_getElem?_getD,List.getElem?_eq_getElem hi]at this;exact(check_zero.1 (verE_check this)).1
def srtS(ids:List Int):Nat→Nat×List Int
 |0=>(0,[])
 |k+1=>if spotS (srtS ids k).1 (srtS ids k).2 (idAt ids k)<(srtS ids k).1∧idAt (srtS ids k).2 (spotS (srtS ids k).1 (srtS ids k).2 (idAt ids k))=idAt ids k then srtS ids k
  else((srtS ids k).1+1,insW (srtS ids k).2 (spotS (srtS ids k).1 (srtS ids k).2 (idAt ids k)) (idAt ids k))
theorem srtS_same{ids:List Int}{k:Nat}(h:spotS (srtS ids k).1 (srtS ids k).2 (idAt ids k)<(srtS ids k).1∧idAt (srtS ids k).2 (spotS (srtS ids k).1 (srtS ids k).2 (idAt ids k))=idAt ids k):srtS ids (k+1)=srtS ids k:=by
 rw[srtS,if_pos h]
theorem srtS_more{ids:List Int}{k:Nat}(h:¬(spotS (srtS ids k).1 (srtS ids k).2 (idAt ids k)<(srtS ids k).1∧idAt (srtS ids k).2 (spotS (srtS ids k).1 (srtS ids k).2 (idAt ids k))=idAt ids k)):srtS ids (k+1)=((srtS ids k).1+1,insW (srtS ids k).2 (spotS (srtS ids k).1 (srtS ids k).2 (idAt ids k)) (idAt ids k)):=by
 rw[srtS,if_neg h]
theorem srtS_le(ids:List Int):∀k,(srtS ids k).1≤k
 |0=>Nat.le_refl _
 |k+1=>by
  have:=srtS_le ids k;rw[srtS];split
  ·omega
  ·dsimp only;omega
def selO(f:Nat→Bool)(ops:List OpV):Nat→List OpV
 |0=>[]
 |n+1=>selO f ops n++(if f n then [ops.getD n OpV.zero]else [])
theorem selO_len(f:Nat→Bool)(ops:List OpV):∀n,(selO f ops n).length=numF f n
 |0=>rfl
 |n+1=>by
  rw[selO,numF,List.length_append,selO_len f ops n];split<;>rfl
def parF(g:PG)(n:Nat)(l:List Int)(i:Nat):Bool:=decide (inS n l (idAt g.ids i))
def parS(g:PG)(n:Nat)(l:List Int):PG:=⟨numF (parF g n l) g.m,selF (parF g n l) g.ids g.m,selO (parF g n l) g.ops g.m⟩
end S
namespace W
open Go.RowKit G
theorem sep2{e1 e2:Ent}{S1 S2:Nat→Prop}{w:World}(hd:∀b,S1 b→S2 b→False)(h1:e1.ok S1 w)(h2:e2.ok S2 w):Sep [e1,e2] (fun b=>S1 b∨S2 b) w:=Sep.app (sep1 h1) (sep1 h2) (fun _ h=> .inl h) (fun _ h=> .inr h) hd
section
variable{S0:Nat→Prop}{w0:World}{L:List Ent}{X:World→Prop}
theorem J.pair{F1 F2:Ent→List Ent}(e1 e2:Ent)[R:RE L e1 F1][R2:RE (F1 .emp) e2 F2](k:J S0 w0 (F2 (.all [e1,e2])) X):J S0 w0 L X:=
 J.merge e1 e2 (.all [e1,e2]) (fun _ _ _ hd h1 h2=>all_i (sep2 hd h1 h2)) k
end
section
end
end W
end Go.Proofs.YtkibkhgcbepolaaGreatDoor
