/-
  Part 12 of the lemmas of these laws: ShardOne.
-/
import Derived.Test.YtkmgnmebadghbaaGreatDoorPSo11
set_option linter.unusedVariables false
set_option linter.unusedSimpArgs false
open Go.Proofs.Tryz
namespace Go.Proofs.YtkmgnmebadghbaaGreatDoor
namespace W
open Go.RowKit G
set_option maxRecDepth 20000
set_option maxHeartbeats 8000000
attribute [local irreducible] RS RX RY Code.wp bodyPost J Ent.blk Ent.iown Ent.wrow Ent.wown Ent.gown Ent.all Ent.emp
instance:Ents prog 65:=⟨.mk func65 (by kernel_rfl) rfl⟩
instance:Ents prog 109:=⟨.mk func109 (by kernel_rfl) rfl⟩
instance:Ents prog 124:=⟨.mk func124 (by kernel_rfl) rfl⟩
section
variable{w0:World}{L:List Ent}{P:Program}{ops:Array Oper}{K:List Value→World→Prop}{rest:List (Oper×Kd)}{l l':List Value}{m:Md}{d:Tmp}{ty xt T:TypeId}{pos:String}{af:Array Edge}{x:Operand}{b o:Nat}{cs:List Value}{v:Value}
theorem J.ldOq[U:Sca P xt](hB:Blk w0 b cs T)(hx:ev l x= .pointer (some ⟨b,o,none⟩))(k:J no w0 L (RY no w0 m P ops K rest l'))(hv:cs[o]? =some v:=by rfl)(hl:l.set d v=l':=by dsimp only[List.set]):
  J no w0 L (RY no w0 m P ops K ((⟨some d, .load xt x,ty,pos,af,none⟩, .q)::rest) l):=
 let ⟨_,u1,u2⟩:=U.h
 J.val (fun w M=>D.load hx u1 u2 ((hB.ext M.ext).cell hv)) k hl
end
theorem shWh1(x:List Int)(n i:Int)(bn bi:Nat)(T T2:TypeId)(w:World)(hn:Blk w bn [.int .i64 n] T)(hi:Blk w bi [.int .i64 i] T2)(hx:Arr .u8 32 x)(h0:0<n∧n≤1000):
  Calls prog 109 #[.agg (ints .u8 x).toArray, .pointer (some ⟨bn,0,none⟩), .pointer (some ⟨bi,0,none⟩)] w (Ret w fun v _=>v= .bool (decide (¬x.getD 0 0 % n=i))):=by
 refine J.enter 7 func109 rfl rfl ?_;refine run ?_;refine J.box rfl rfl rfl fun b1=>?_
 refine run ?_;refine J.regionX [(0, .q),(1, .q),(3, .q),(2, .e),(4, .q),(5, .q)] mixed (by kernel_rfl) ?_;refine run ?_;refine J.ldOq hn rfl ?_;refine J.ldOq hi rfl ?_;refine J.callp rfl rfl (fun w' M=>shNumber x n hx h0 w') ?_;refine run ?_;exact J.fin (congrArg _ (by rw[Bool.eq_iff_iff];simp))
theorem idxWh{S1:Nat→Prop}(n i:Int)(a:Option Addr)(m c:Nat)(ids:List Int)(bn bi:Nat)(T T2:TypeId)(w:World)(hn:Blk w bn [.int .i64 n] T)(hi:Blk w bi [.int .i64 i] T2)(D1:WRow .u8 32 S1 w a m ids)(h0:0<n∧n≤1000)(hm:m≤1000):
  Calls prog 123 #[.slice a m c, .func (.func 109) #[] #[.pointer (some ⟨bn,0,none⟩), .pointer (some ⟨bi,0,none⟩)]] w (Gv w (fun r:Int=> .int .i64 r) (fun _=>[]) fun r=>0≤r↔¬S.resP n i m ids):=by
 have hl:=D1.len;refine J.enter 17 func123 rfl rfl ?_;refine run ?_;refine J.loopS (A:=Int) (fun p=>[(8, .int .i64 p)]) [4,5,9,10,11,12,13,14,15,16,17,18] (fun p=>(0≤p∧p≤m)∧∀j,j<p.toNat→(S.idAt ids j).getD 0 0 % n=i) (fun p=>m - p.toNat) 0 (by kernel_rfl) ⟨by omega,fun i hi=>by omega⟩ (fun p j hI=>?_);obtain⟨h1,hI⟩:=hI;refine run ?_;refine J.ifd rfl (fun c1=>?_) (fun c1=>?_)
 ·refine run ?_;refine J.callvp rfl rfl rfl (fun w' M=>shWh1 _ n i bn bi T T2 w' (hn.ext M.ext) (hi.ext M.ext) (D1.elt_arr (by omega)) h0) ?_;refine run ?_;refine J.ifd rfl (fun c2=>?_) (fun c2=>?_)
  ·refine run ?_;exact J.finG p rfl ⟨fun _ h=>c2 (h p.toNat (by omega)),fun _=>by omega⟩ (List.nil_sublist _)
  refine run ?_;refine J.nextS (p+1) ⟨rfl,trivial⟩ (by kernel_rfl) ⟨by omega,fun i hi=>?_⟩ (by omega);rcases Nat.lt_or_ge i p.toNat with e|e
  ·exact hI i e
  obtain rfl:i=p.toNat:=by omega
  exact Classical.not_not.1 c2
 refine run ?_;exact J.finG (-1) rfl ⟨fun h=>by omega,fun h=>absurd (fun i hi=>hI i (by omega)) h⟩ (List.nil_sublist _)
theorem hasWh{S1:Nat→Prop}(n i:Int)(a:Option Addr)(m c:Nat)(ids:List Int)(bn bi:Nat)(T T2:TypeId)(w:World)(hn:Blk w bn [.int .i64 n] T)(hi:Blk w bi [.int .i64 i] T2)(D1:WRow .u8 32 S1 w a m ids)(h0:0<n∧n≤1000)(hm:m≤1000):
  Calls prog 83 #[.slice a m c, .func (.func 109) #[] #[.pointer (some ⟨bn,0,none⟩), .pointer (some ⟨bi,0,none⟩)]] w (Ret w fun v _=>v= .bool (decide (¬S.resP n i m ids))):=by
 refine J.enter 7 func83 rfl rfl ?_;refine run ?_;refine J.call rfl rfl (fun w' M=>idxWh n i a m c ids bn bi T T2 w' (hn.ext M.ext) (hi.ext M.ext) (D1.ext M.ext) h0 hm) fun r hr2=>?_
 refine run ?_;exact J.fin (congrArg _ (decide_eq_decide.2 hr2))
theorem cloneO{S0:Nat→Prop}(a:Option Addr)(n c:Nat)(l:List OpA)(w:World)(D0:GRow opC 11 S0 w a n l)(hn:n≤1000):
  Calls prog 124 #[.slice a n c] w (Gv w (fun q:Option Addr×Nat=> .slice q.1 n q.2) (fun q=>[.gown opC 11 54 q.1 n q.2 l]) fun _=>True):=by
 refine J.enter 7 func124 rfl rfl ?_;refine run ?_;refine J.ifb rfl (fun c1=>?_) (fun c1=>?_)
 ·obtain⟨rfl,rfl⟩:=D0.none (by decide) c1;refine run ?_;refine J.nilG opC 11 54 opC_len ?_;exact J.finG (none,0) rfl trivial (.cons_cons _ (List.nil_sublist _))
 refine run ?_;refine J.b0G opC opC_len rfl fun b=>?_
 refine run ?_;refine J.apG rfl rfl (RG.arg D0) opC_one fun a' c'=>?_
 refine run ?_;refine J.re (.gown opC 11 54 a' (0+n) c' ([]++l)) (.gown opC 11 54 a' n c' l) (fun S w h=>by rw[Nat.zero_add]at h;exact h) ?_;exact J.finG (a',c') (by rw[Nat.zero_add]) trivial (.cons_cons _ (List.nil_sublist _))
structure TwU where
 (ia:Option Addr)(ic:Nat)(oa:Option Addr)(oc b3:Nat)
structure TwA where
 (i:Nat)(D:List OpA)
theorem shTwin{S0:Nat→Prop}(g:GrA)(w:World)(G:GrR S0 w g):
  Calls prog 84 #[.agg (grC g).toArray] w (Gv w (fun q:GrA=> .agg (grC q).toArray) (grE 27 54) (GrP g.m g.ids g.ops)):=by
 have D0:=G.ids;have G0:=G.ops;have hl:=G.len;have hcp:=G.cap;have hzl:=G0.len;refine J.enter 31 func84 rfl rfl ?_;refine run ?_;refine J.box rfl rfl rfl fun b1=>?_
 refine J.alloc rfl fun b2=>?_
 refine run ?_;refine J.joinX (A:=TwU) (fun u=>[(3, .pointer (some ⟨u.b3,0,none⟩))]) [5,6,7,8,9,10,11] (fun u=>[.gown opC 11 54 u.oa g.n u.oc g.zs, .blk u.b3 [.slice u.ia g.m u.ic, .slice u.oa g.n u.oc] 61, .wown 27 .u8 32 u.ia g.m u.ic g.ids, .blk b2 [.slice none 0 0, .slice none 0 0] 61, .blk b1 (grC g) 61]) (fun _=>True) ?_ (fun u j hu=>?_)
 ·refine J.regionW [.blk b1 (grC g) 61] mixed ?_;refine J.wnode [(0, .q),(1, .q),(3, .q),(4, .q)] [2,7] 4 #[true,true,false,true,true,false,false,false,false] (by kernel_rfl) ?_;refine run ?_;refine J.nil ?_;refine J.wbr ?_ ?_
  ·refine J.call rfl rfl (fun w' M=>cloneW g.ia g.m g.ic g.ids w' (D0.ext M.ext) hcp.1 (by omega)) fun q1 hq1=>?_
   refine J.nil ?_;refine J.wnode [] [5,7] 3 #[true,true,true,true,true,false,false,false,false] (by kernel_rfl) ?_;refine run ?_;refine J.nil ?_;refine J.wbr ?_ ?_
   ·refine J.call rfl rfl (fun w' M=>cloneO g.oa g.n g.oc g.zs w' (G0.ext M.ext) (by omega)) fun q2 hq2=>?_
    refine J.nil ?_;refine J.wfin [(6, .q),(7, .e),(8, .e)] (by kernel_rfl) ?_;refine run ?_;refine J.alloc rfl fun b5=>?_
    refine run ?_;refine run ?_;refine J.front (.wown 27 .u8 32 q1.1 g.m q1.2 g.ids) ?_;refine J.front (.blk b5 [.slice q1.1 g.m q1.2, .slice q2.1 g.n q2.2] 61) ?_;refine J.front (.gown opC 11 54 q2.1 g.n q2.2 g.zs) ?_;exact J.cut ⟨q1.1,q1.2,q2.1,q2.2,b5⟩ ⟨rfl,trivial⟩ (by kernel_rfl) trivial
   refine J.wbr ?_ ?_
   ·refine J.alloc rfl fun b5=>?_
    refine J.nil ?_;refine J.wfin [(5, .e),(6, .q),(8, .e)] (by kernel_rfl) ?_;refine run ?_;refine J.call rfl rfl (fun w' M=>cloneO g.oa g.n g.oc g.zs w' (G0.ext M.ext) (by omega)) fun q2 hq2=>?_
    refine run ?_;refine run ?_;refine J.front (.wown 27 .u8 32 q1.1 g.m q1.2 g.ids) ?_;refine J.front (.blk b5 [.slice q1.1 g.m q1.2, .slice q2.1 g.n q2.2] 61) ?_;refine J.front (.gown opC 11 54 q2.1 g.n q2.2 g.zs) ?_;exact J.cut ⟨q1.1,q1.2,q2.1,q2.2,b5⟩ ⟨rfl,trivial⟩ (by kernel_rfl) trivial
   exact J.wbr0
  refine J.wbr ?_ ?_
  ·refine J.alloc rfl fun b5=>?_
   refine J.nil ?_;refine J.wfin [(2, .e),(5, .e),(6, .q),(8, .e)] (by kernel_rfl) ?_;refine run ?_;refine J.call rfl rfl (fun w' M=>cloneW g.ia g.m g.ic g.ids w' (D0.ext M.ext) hcp.1 (by omega)) fun q1 hq1=>?_
   refine run ?_;refine J.call rfl rfl (fun w' M=>cloneO g.oa g.n g.oc g.zs w' (G0.ext M.ext) (by omega)) fun q2 hq2=>?_
   refine run ?_;refine run ?_;refine J.front (.wown 27 .u8 32 q1.1 g.m q1.2 g.ids) ?_;refine J.front (.blk b5 [.slice q1.1 g.m q1.2, .slice q2.1 g.n q2.2] 61) ?_;refine J.front (.gown opC 11 54 q2.1 g.n q2.2 g.zs) ?_;exact J.cut ⟨q1.1,q1.2,q2.1,q2.2,b5⟩ ⟨rfl,trivial⟩ (by kernel_rfl) trivial
  exact J.wbr0
 obtain⟨ia,ic,oa,oc,b3⟩:=u;dsimp only;refine run ?_;refine J.noA ?_;refine J.re (.gown opC 11 54 oa g.n oc g.zs) (.gown opC 11 54 oa g.n oc ([]++g.zs.drop 0)) (fun _ _ h=>h) ?_;refine J.re (.all []) (.all (([]:List OpA).map (opE 27))) (fun _ _ h=>h) ?_;refine J.front (.gown opC 11 54 oa g.n oc ([]++g.zs.drop 0)) ?_;refine J.drop (E:=[.gown opC 11 54 oa g.n oc ([]++g.zs.drop 0), .all (([]:List OpA).map (opE 27)), .blk b3 [.slice ia g.m ic, .slice oa g.n oc] 61, .wown 27 .u8 32 ia g.m ic g.ids, .blk b2 [.slice none 0 0, .slice none 0 0] 61, .blk b1 (grC g) 61]) sb ?_;refine J.loop (A:=TwA) (fun p=>[(15, .int .i64 (p.i:Nat))]) [4,16,17,18,19,20,21,22,23,24,25,26,27,28,29,30] (fun p=>[.gown opC 11 54 oa g.n oc (p.D++g.zs.drop p.i), .all (p.D.map (opE 27)), .blk b3 [.slice ia g.m ic, .slice oa g.n oc] 61, .wown 27 .u8 32 ia g.m ic g.ids, .blk b2 [.slice none 0 0, .slice none 0 0] 61, .blk b1 (grC g) 61]) (fun p=>p.i≤g.n∧p.D.length=p.i∧p.D.map OpA.o=(g.zs.take p.i).map OpA.o∧∀z∈p.D,z.o.n≤z.pc) (fun p=>g.n - p.i) ⟨0,[]⟩ (by kernel_rfl) ⟨Nat.zero_le _,rfl,rfl,fun z hz=>by cases hz⟩ (fun p j hI=>?_);obtain⟨hp,hD,hDo,hDc⟩:=hI;refine run ?_;refine J.ifd rfl (fun c1=>?_) (fun c1=>?_)
 ·obtain⟨z,hzz⟩:=G0.ex (i:=(p.i:Nat)) (by omega);have R:=G.op hzz;rw[Int.toNat_natCast]at hzz;have hz2:(p.D++g.zs.drop p.i)[((p.i:Nat):Int).toNat]? =some z:=by
   rw[Int.toNat_natCast,List.getElem?_append_right (by omega),hD,Nat.sub_self,List.getElem?_drop,Nat.add_zero];exact hzz
  refine run ?_;refine J.regionX [(0, .q),(1, .q),(2, .q),(3, .q),(4, .q),(5, .q),(6, .q),(7, .q),(8, .q),(9, .e),(10, .q),(11, .q),(12, .g)] mixed (by kernel_rfl) ?_;refine run ?_;refine J.call rfl rfl (fun w' M=>cloneW _ _ _ _ w' (R.row.ext M.ext) R.cap (by have:=R.ok.n;omega)) fun q hq=>?_
  refine run ?_;refine J.stGf (f:=opC) (o:=1) (q0:=z) (q:=⟨z.o,q.1,q.2⟩) rfl rfl hz2 rfl ?_;rw[Int.toNat_natCast,S.set_mid hD hzz];refine run ?_;refine J.snocA (p.D.map (opE 27)) (.wown 27 .u8 32 q.1 z.o.n q.2 z.o.ids) ?_;refine J.re (.all (p.D.map (opE 27)++[.wown 27 .u8 32 q.1 z.o.n q.2 z.o.ids])) (.all ((p.D++[(⟨z.o,q.1,q.2⟩:OpA)]).map (opE 27))) (fun _ _ h=>by rw[List.map_append];exact h) ?_;refine J.drop (E:=[.gown opC 11 54 oa g.n oc ((p.D++[(⟨z.o,q.1,q.2⟩:OpA)])++g.zs.drop (p.i+1)), .all ((p.D++[(⟨z.o,q.1,q.2⟩:OpA)]).map (opE 27)), .blk b3 [.slice ia g.m ic, .slice oa g.n oc] 61, .wown 27 .u8 32 ia g.m ic g.ids, .blk b2 [.slice none 0 0, .slice none 0 0] 61, .blk b1 (grC g) 61]) sb ?_
  exact J.next ⟨p.i + 1, p.D ++ [⟨z.o, q.1, q.2⟩]⟩ ⟨rfl, trivial⟩ (by kernel_rfl) ⟨by dsimp only; omega, by simp [hD], by dsimp only; rw [List.map_append, hDo, List.take_add_one, hzz, Option.toList_some, List.map_append]; rfl, fun y hy => by
   rcases List.mem_append.1 hy with h | h
   ·exact hDc y h
   rw [List.mem_singleton] at h; subst h; exact hq⟩ (by dsimp only; omega)
 obtain⟨pi,D⟩:=p;dsimp only at hp hD hDo hDc c1⊢;obtain rfl:pi=g.n:=by omega
 rw[List.drop_of_length_le (by omega),List.append_nil];refine run ?_;exact J.finG ⟨ia,oa,g.m,g.n,ic,oc,g.ids,D⟩ rfl ⟨rfl,rfl,hl.symm,by show D.map OpA.o=_;rw[hDo,List.take_of_length_le (by omega)];rfl,hDc⟩ (by unfold grE;repeat(first|exact List.nil_sublist _|refine List.Sublist.cons_cons _ ?_|refine List.Sublist.cons _ ?_))
instance:Ents prog 84:=⟨.mk func84 (by kernel_rfl) rfl⟩
structure MrA where
 (nx:List Nat)(n:Nat)(a:Option Addr)(c:Nat)(oa:Option Addr)(oc:Nat)(zs:List OpA)(g:S.PG)
structure LsA where
 (i:Nat)(l:Int)
theorem shMerge{S0:Nat→Prop}(s:ShA)(w:World)(H:ShR S0 w s)(hL:ShL s)(hn:s.pn≤4)(hres:∀k,k<s.V.ps.length→S.resP (s.V.ps.length:Int) (k:Nat) (s.V.ps.getD k S.PG.nil).m (s.V.ps.getD k S.PG.nil).ids):
  Calls prog 110 #[.agg (shC s).toArray] w (Gv w (fun q:GrA×Bool=> .tuple #[.agg (grC q.1).toArray, .bool q.2]) (fun q=>grE 27 54 q.1) fun q=>(q.2=true→S.goodPs s.V.ps∧GrP (S.whole s.V.ps).m (S.whole s.V.ps).ids (S.whole s.V.ps).ops q.1)∧(q.2=false→¬S.goodPs s.V.ps)):=by
 have P0:=H.pr;have hl:=P0.len;have hcp:=H.cap;have hml:=H.ml;obtain⟨V,hV⟩:=ex s.V.ps;rw[←hV]at hres⊢;have hV':V=s.gs.map GrA.P:=hV;rw[←hV']at hml;have hVl:V.length=s.pn:=by rw[hV',List.length_map,hl]
 have hat:∀ {i:Nat} {g:GrA},s.gs[i]? =some g→V.getD i S.PG.nil=g.P:=fun h=>by rw[hV'];exact gsAt h
 have hall:S.allN V≤64:=hV▸hL hn;refine J.enter 142 func110 rfl rfl ?_;refine run ?_;refine J.box rfl rfl rfl fun b1=>?_
 refine J.alloc rfl fun b2=>?_
 refine run ?_;refine J.alloc rfl fun b4=>?_
 refine run ?_;refine J.mkI rfl rfl rfl fun b5=>?_
 refine run ?_;refine J.loop (A:=Nat) (fun p=>[(19, .int .i64 (p:Nat))]) [7,8,20,21,22,23,24,25,26,27,28,29,30,31,32,33,34,35,36,37,38,39,40,41,42,43,44,45,46,47,48,49,50,51,52] (fun _=>[.iown 3 .i64 (some ⟨b5,0,none⟩) s.pn s.pn (List.replicate s.pn 0), .blk b4 [.slice none 0 0, .slice none 0 0] 61, .blk b2 [.slice none 0 0, .slice none 0 0] 61, .blk b1 (shC s) 25]) (fun p=>p≤s.pn∧∀k,k<p→(V.getD k S.PG.nil).ops.length=(V.getD k S.PG.nil).m∧S.Rising (V.getD k S.PG.nil).m (V.getD k S.PG.nil).ids) (fun p=>s.pn - p) 0 (by kernel_rfl) ⟨Nat.zero_le _,fun k hk=>absurd hk (Nat.not_lt_zero _)⟩ (fun p j hI=>?_);obtain⟨hp,hI⟩:=hI;refine run ?_;refine J.ifd rfl (fun c1=>?_) (fun c1=>?_)
 ·obtain⟨g,hg⟩:=P0.ex (i:=(p:Nat)) (by omega);have hg':=hg;rw[Int.toNat_natCast]at hg';have G:=H.g hg';have D0:=G.ids;have hcp2:=G.cap;have hgl:=G.len;have hgP:=hat hg';refine run ?_;refine J.alloc rfl fun b7=>?_
  refine run ?_;refine J.ifn rfl (fun c2=>?_) (fun c2=>?_)
  ·refine run ?_;refine J.nilGr 27 54 ?_;refine J.finG (GrA.nil,false) rfl ⟨fun h=>(by cases h),fun _ h=>c2 ?_⟩ (by unfold grE;repeat(first|exact List.nil_sublist _|refine List.Sublist.cons_cons _ ?_|refine List.Sublist.cons _ ?_));have:=(h p (by omega)).1.2;rw[hgP]at this;have h2:g.ops.length=g.m:=this;omega
  refine run ?_;refine J.loopS (A:=Int) (fun q=>[(8, .int .i64 q)]) [31,32,33,34,35,36,37,38,39,40,41,42,43,44,45,46,47,48,49,50,51] (fun q=>1≤q∧(q≤g.m∨q=1)∧S.RisS g.ids q.toNat) (fun q=>(g.m+1 - q).toNat) 1 (by kernel_rfl) ⟨by decide, .inr rfl,fun k hk=>by omega⟩ (fun q j2 hI2=>?_);obtain⟨h1,h2,h3⟩:=hI2;refine run ?_;refine J.ifd rfl (fun c3=>?_) (fun c3=>?_)
  ·refine run ?_;refine J.regionX [(0, .q),(1, .q),(2, .q),(3, .q),(4, .q),(5, .q),(6, .q),(7, .q),(8, .q),(9, .q),(10, .q),(11, .e),(12, .q)] mixed (by kernel_rfl) ?_;refine run ?_;refine J.callp rfl rfl (fun w' M=>dcmp _ _ (D0.elt_arr (by omega)) (D0.elt_arr (by omega)) w') ?_;refine run ?_;have e:q.toNat=(q - 1).toNat+1:=by omega
   refine J.ifd rfl (fun c4=>?_) (fun c4=>?_)
   ·refine run ?_;refine J.nilGr 27 54 ?_;refine J.finG (GrA.nil,false) rfl ⟨fun h=>(by cases h),fun _ h=>?_⟩ (by unfold grE;repeat(first|exact List.nil_sublist _|refine List.Sublist.cons_cons _ ?_|refine List.Sublist.cons _ ?_));have:=(h p (by omega)).2.1;rw[hgP]at this;have h5:=this (q - 1).toNat (by show _<g.m - 1;omega);rw[e]at c4;exact absurd c4 (Int.not_le.2 h5)
   refine run ?_;refine J.nextS (q+1) ⟨rfl,trivial⟩ (by kernel_rfl) ⟨by omega, .inl (by omega),fun k hk=>?_⟩ (by omega);by_cases hk2:k+1<q.toNat
   ·exact h3 k hk2
   obtain rfl:k=(q - 1).toNat:=by omega
   rw[e]at c4;exact Int.not_le.1 c4
  have hr:S.Rising g.m g.ids:=fun i hi=>h3 i (by omega);refine run ?_;refine J.next (p+1) ⟨rfl,trivial⟩ (by kernel_rfl) ⟨by omega,fun k hk=>?_⟩ (by omega);rcases Nat.lt_or_ge k p with c|c
  ·exact hI k c
  obtain rfl:k=p:=by omega
  rw[hgP];exact⟨by show g.ops.length=g.m;omega,hr⟩
 have hgood:S.goodPs V:=S.goodPs_of hml hres fun k hk=>hI k (by omega);have hle:=S.whole_le hml;refine run ?_;refine J.nilWo 27 .u8 32 ?_;refine J.nilG opC 11 54 opC_len ?_;refine J.re (.iown 3 .i64 (some ⟨b5,0,none⟩) s.pn s.pn (List.replicate s.pn 0)) (.iown 3 .i64 (some ⟨b5,0,none⟩) s.pn s.pn (S.castL (List.replicate V.length 0))) (fun _ _ h=>by rw[S.castL_rep,hVl];exact h) ?_;refine J.front (.blk b4 [.slice none 0 0, .slice none 0 0] 61) ?_;refine J.front (.wown 27 .u8 32 none 0 0 []) ?_;refine J.front (.gown opC 11 54 none 0 0 []) ?_;refine J.drop (E:=[.gown opC 11 54 none 0 0 [], .wown 27 .u8 32 none 0 0 [], .blk b4 [.slice none 0 0, .slice none 0 0] 61, .iown 3 .i64 (some ⟨b5,0,none⟩) s.pn s.pn (S.castL (List.replicate V.length 0)), .blk b2 [.slice none 0 0, .slice none 0 0] 61, .blk b1 (shC s) 25]) sb ?_;refine J.loop (A:=MrA) (fun p=>[]) [9,10,11,53,54,55,56,57,58,59,60,61,62,63,64,65,66,67,68,69,70,71,72,73,74,75,76,77,78,79,80,81,82,83,84,85,86,87,88,89,90,91,92,93,94,95,96,97,98,99,100,101,102,103,104,105,106,107,108,109,110,111,112,113,114,115,116,117,118,119,120,121,122,123,124,125,126,127,128,129,130,131,132,133,134,135,136,137,138,139,140,141,142] (fun p=>[.gown opC 11 54 p.oa p.n p.oc p.zs, .wown 27 .u8 32 p.a p.n p.c p.g.ids, .blk b4 [.slice p.a p.n p.c, .slice p.oa p.n p.oc] 61, .iown 3 .i64 (some ⟨b5,0,none⟩) s.pn s.pn (S.castL p.nx), .blk b2 [.slice none 0 0, .slice none 0 0] 61, .blk b1 (shC s) 25]) (fun p=>S.MgS V p.nx p.g∧p.n=p.g.m∧p.zs.map OpA.o=p.g.ops∧∀z∈p.zs,∃g∈s.gs,z∈g.zs) (fun p=>64 - p.g.m) ⟨List.replicate V.length 0,0,none,0,none,0,[],S.PG.nil⟩ (by kernel_rfl) ⟨S.mg_zero V,rfl,rfl,fun z hz=>by cases hz⟩ (fun p j2 hI2=>?_);obtain⟨hm,hpn,hpz,hpm⟩:=hI2;have hnl:=hm.len;refine run ?_
 refine J.loop (A:=LsA) (fun q=>[(9, .int .i64 q.l),(56, .int .i64 (q.i:Nat))]) [10,11,57,58,59,60,61,62,63,64,65,66,67,68,69,70,71,72,73,74,75,76,77,78,79,80,81,82,83,84,85,86,87,88,89,90,91,92,93,94,95,96,97,98] (fun _=>[.gown opC 11 54 p.oa p.n p.oc p.zs, .wown 27 .u8 32 p.a p.n p.c p.g.ids, .blk b4 [.slice p.a p.n p.c, .slice p.oa p.n p.oc] 61, .iown 3 .i64 (some ⟨b5,0,none⟩) s.pn s.pn (S.castL p.nx), .blk b2 [.slice none 0 0, .slice none 0 0] 61, .blk b1 (shC s) 25]) (fun q=>q.i≤s.pn∧S.LsP V p.nx q.i q.l) (fun q=>s.pn - q.i) ⟨0, -1⟩ (by kernel_rfl) ⟨Nat.zero_le _,S.ls_zero⟩ (fun q j3 hI3=>?_);obtain⟨hq,hls⟩:=hI3;refine run ?_;refine J.ifd rfl (fun c2=>?_) (fun c2=>?_)
 ·obtain⟨g,hg⟩:=P0.ex (i:=(q.i:Nat)) (by omega);have hg':=hg;rw[Int.toNat_natCast]at hg';have G:=H.g hg';have D0:=G.ids;have hcp2:=G.cap;have hgP:=hat hg';have hni:((p.nx.getD q.i 0:Nat):Int)=(S.castL p.nx).getD ((q.i:Nat):Int).toNat 0:=by rw[Int.toNat_natCast,S.castL_get]
  refine run ?_;refine J.alloc rfl fun b11=>?_
  refine run ?_;refine J.regionX [(0, .q),(1, .q),(2, .q),(3, .q),(4, .q),(5, .q),(6, .q),(7, .q),(8, .q),(9, .q),(10, .q),(11, .q),(12, .q),(13, .q),(14, .q),(15, .q),(16, .q),(17, .q),(18, .q),(19, .q),(20, .q),(21, .q),(22, .q),(23, .q),(24, .q),(25, .q),(26, .q),(27, .q),(28, .q),(29, .q),(30, .q),(31, .q),(32, .e),(33, .q),(34, .q),(35, .q)] mixed (by kernel_rfl) ?_;refine run ?_;refine J.spd rfl rfl rfl (fun c3=>?_) (fun c3=>?_)
  ·have hlt:p.nx.getD q.i 0<(V.getD q.i S.PG.nil).m:=by rw[hgP];show _<g.m;omega
   refine run ?_;refine J.spd rfl rfl rfl (fun c4=>?_) (fun c4=>?_)
   ·refine run ?_;exact J.next ⟨q.i+1,(q.i:Nat)⟩ ⟨rfl,rfl,trivial⟩ (by kernel_rfl) ⟨by dsimp only;omega,hls.first c4 hlt⟩ (by dsimp only;omega)
   obtain⟨k,hkl,hki,hkm⟩:=hls.some c4;rw[hkl]at hls⊢;obtain⟨h,hh⟩:=P0.ex (i:=(k:Nat)) (by omega);have hh':=hh;rw[Int.toNat_natCast]at hh';have GH:=H.g hh';have D1:=GH.ids;have hhP:=hat hh';have hkm':p.nx.getD k 0<h.m:=by rw[hhP]at hkm;exact hkm
   have hnk:((p.nx.getD k 0:Nat):Int)=(S.castL p.nx).getD ((k:Nat):Int).toNat 0:=by rw[Int.toNat_natCast,S.castL_get]
   refine run ?_;rw[Int.toNat_natCast (p.nx.getD q.i 0),Int.toNat_natCast (p.nx.getD k 0)];refine J.callp rfl rfl (fun w' M=>dcmp _ _ (D0.elt_arr (by omega)) (D1.elt_arr (by omega)) w') ?_;refine run ?_;have ec:∀ {z:Prop},(S.cmpS (elt 32 g.ids (p.nx.getD q.i 0)) (elt 32 h.ids (p.nx.getD k 0))<0→z)→S.cmpS (S.idAt (V.getD q.i S.PG.nil).ids (p.nx.getD q.i 0)) (S.idAt (V.getD k S.PG.nil).ids (p.nx.getD k 0))<0→z:=fun f=>by rw[hgP,hhP];exact f
   refine J.ifd rfl (fun c5=>?_) (fun c5=>?_)
   ·refine run ?_;exact J.next ⟨q.i+1,(q.i:Nat)⟩ ⟨rfl,rfl,trivial⟩ (by kernel_rfl) ⟨by dsimp only;omega,hls.less hlt (by rw[hgP,hhP];exact c5)⟩ (by dsimp only;omega)
   refine run ?_;exact J.next ⟨q.i+1,(k:Nat)⟩ ⟨rfl,rfl,trivial⟩ (by kernel_rfl) ⟨by dsimp only;omega,hls.more (by rw[hgP,hhP];exact c5)⟩ (by dsimp only;omega)
  refine run ?_;exact J.next ⟨q.i+1,q.l⟩ ⟨rfl,rfl,trivial⟩ (by kernel_rfl) ⟨by dsimp only;omega,hls.skip (by rw[hgP];show ¬_<g.m;omega)⟩ (by dsimp only;omega)
 obtain⟨qi,ql⟩:=q;dsimp only at hq hls c2⊢;obtain rfl:qi=s.pn:=by omega
 rw[←hVl]at hls;obtain⟨nx,n,a,c,oa,oc,zs,gg⟩:=p;dsimp only at hm hpn hpz hpm hnl hls⊢;refine J.fact (.wown 27 .u8 32 a n c gg.ids) (fun _ _ h=>(wown_len h).2) fun hc2=>?_
 refine J.fact (.gown opC 11 54 oa n oc zs) (fun _ _ h=>(gown_e h).1.capn) fun hc3=>?_
 refine run ?_;refine J.ifd rfl (fun c3=>?_) (fun c3=>?_)
 ·have hw:=hm.done hgood hls c3;have hn70:n≤70:=by rw[hpn,←hw];omega
  refine run ?_;refine J.call rfl rfl (fun w' M=>(RW.own' (a:=a) w' M).elim fun _ k0=>(RG.own' (a:=oa) w' M).elim fun _ k1=>shTwin ⟨a,oa,n,n,c,oc,gg.ids,zs⟩ w' (S0:=fun _=>True) ⟨k0.weaken fun _ _ _=>trivial,k1.weaken fun _ _ _=>trivial,Inns.weak (fun x hx=>(hpm x hx).elim fun g hg=>((H.gi g hg.1).ext M.ext).inn x hg.2) fun _ _=>trivial,fun z hz=>(hpm z hz).elim fun g hg=>(H.gi g hg.1).ok z hg.2,hc2,hc3,hn70,hn70⟩) fun q hq=>?_
  dsimp only[grE,List.cons_append,List.nil_append];refine run ?_;refine J.finG (q,true) rfl ⟨fun _=>⟨hgood,?_⟩,fun h=>by cases h⟩ sb;have eo:GrA.ops ⟨a,oa,n,n,c,oc,gg.ids,zs⟩=gg.ops:=hpz;rw[eo]at hq;rw[hw];exact⟨hq.m.trans hpn,hq.ids,hq.n,hq.ops,hq.cap⟩
 obtain⟨k,rfl,hkl,hkm⟩:=hls.some c3;have hstep:=hm.step hgood hls;have hlt:=hm.lt hkl hkm;obtain⟨h,hh⟩:=P0.ex (i:=(k:Nat)) (by omega);have hh':=hh;rw[Int.toNat_natCast]at hh';have GH:=H.g hh';have D1:=GH.ids;have O1:=GH.ops;have hcp2:=GH.cap;have hhP:=hat hh';have hkm':nx.getD k 0<h.m:=by rw[hhP]at hkm;exact hkm
 have hhn:h.n=h.m:=by
  have:=(hgood k hkl).1.2;rw[hhP]at this;have h2:h.ops.length=h.m:=this;have h3:=GH.len;omega
 have hA:Arr .u8 32 (elt 32 h.ids (nx.getD k 0)):=D1.elt_arr (by omega);obtain⟨z,hz⟩:=O1.ex (i:=(nx.getD k 0:Nat)) (by omega);have hz':=hz;rw[Int.toNat_natCast]at hz';have hzo:=GrA.opAt hz';have hnk:((nx.getD k 0:Nat):Int)=(S.castL nx).getD ((k:Nat):Int).toNat 0:=by rw[Int.toNat_natCast,S.castL_get]
 have ecl:(S.castL nx).set ((k:Nat):Int).toNat ((nx.getD k 0:Nat)+1)=S.castL (nx.set k (nx.getD k 0+1)):=by rw[Int.toNat_natCast,S.castL_set];rfl
 have hX:S.idAt (V.getD k S.PG.nil).ids (nx.getD k 0)=elt 32 h.ids (nx.getD k 0):=by rw[hhP];rfl
 have hO:(V.getD k S.PG.nil).ops.getD (nx.getD k 0) S.OpV.zero=z.o:=by rw[hhP];exact hzo
 rw[hX,hO]at hstep;clear hX hO;refine run ?_;refine J.regionG [.blk b4 [.slice a n c, .slice oa n oc] 61, .iown 3 .i64 (some ⟨b5,0,none⟩) s.pn s.pn (S.castL nx), .blk b1 (shC s) 25] [33,35] [34] mixed ?_;refine J.gnode [(0, .q),(1, .q),(2, .q),(3, .q),(4, .q),(5, .q),(6, .q),(7, .q),(8, .q),(9, .q),(10, .q),(11, .q),(12, .q),(13, .q),(16, .q),(17, .q),(18, .q),(19, .q),(20, .q),(21, .q),(22, .q),(23, .q),(24, .q),(25, .q),(26, .q),(27, .q),(28, .q),(29, .q)] [14,30] 7 #[true,true,true,true,true,true,true,true,true,true,true,true,true,true,false,false,true,true,true,true,true,true,true,true,true,true,true,true,true,true,false,false,false,false,false,false] (by kernel_rfl) ?_;refine run ?_;refine J.nil ?_;refine J.gbr ?_ ?_
 ·rw[Int.toNat_natCast (nx.getD k 0)];refine J.b1W rfl rfl hA fun bb=>?_
  refine J.nil ?_;refine J.gnode [] [15,30] 6 #[true,true,true,true,true,true,true,true,true,true,true,true,true,true,true,false,true,true,true,true,true,true,true,true,true,true,true,true,true,true,false,false,false,false,false,false] (by kernel_rfl) ?_;refine run ?_;refine J.nil ?_;refine J.gbr ?_ ?_
  ·refine J.apW rfl rfl RW.own' fun a' c'=>?_
   refine J.nil ?_;refine J.gfin [(32, .q),(30, .e),(31, .e),(33, .g),(34, .c),(35, .g)] (by kernel_rfl) ?_;refine run ?_;refine J.b1G opC z opC_len rfl rfl rfl fun bc=>?_
   refine run ?_;refine J.apG rfl rfl RG.own' opC_one fun oa' oc'=>?_
   refine J.sw rfl ?_;refine run ?_;refine J.front (.blk b4 [.slice a' (n+1) c', .slice oa' (n+1) oc'] 61) ?_;refine J.front (.wown 27 .u8 32 a' (n+1) c' (gg.ids++elt 32 h.ids (nx.getD k 0))) ?_;refine J.front (.gown opC 11 54 oa' (n+1) oc' (zs++[z])) ?_;refine run ?_;rw[ecl];refine J.drop (E:=[.gown opC 11 54 oa' (n+1) oc' (zs++[z]), .wown 27 .u8 32 a' (n+1) c' (gg.ids++elt 32 h.ids (nx.getD k 0)), .blk b4 [.slice a' (n+1) c', .slice oa' (n+1) oc'] 61, .iown 3 .i64 (some ⟨b5,0,none⟩) s.pn s.pn (S.castL (nx.set k (nx.getD k 0+1))), .blk b2 [.slice none 0 0, .slice none 0 0] 61, .blk b1 (shC s) 25]) sb ?_
   exact J.next ⟨nx.set k (nx.getD k 0 + 1), n + 1, a', c', oa', oc', zs ++ [z], gg.snoc (elt 32 h.ids (nx.getD k 0)) z.o⟩ trivial (by kernel_rfl) ⟨hstep, congrArg (· + 1) hpn, by dsimp only; rw [List.map_append, hpz]; rfl, fun y hy => by
    rcases List.mem_append.1 hy with hh2 | hh2
    ·exact hpm y hh2
    rw [List.mem_singleton] at hh2; subst hh2; exact ⟨h, List.mem_of_getElem? hh', List.mem_of_getElem? hz'⟩⟩ (by show 64 - (gg.m + 1) < 64 - gg.m; omega)
  refine J.gbr ?_ ?_
  ·refine J.b1G opC z opC_len rfl rfl rfl fun bc=>?_
   refine J.nil ?_;refine J.gfin [(15, .e),(32, .q),(31, .e),(33, .g),(34, .c),(35, .g)] (by kernel_rfl) ?_;refine run ?_;refine J.apW rfl rfl RW.own' fun a' c'=>?_
   refine run ?_;refine J.apG rfl rfl RG.own' opC_one fun oa' oc'=>?_
   refine J.sw rfl ?_;refine run ?_;refine J.front (.blk b4 [.slice a' (n+1) c', .slice oa' (n+1) oc'] 61) ?_;refine J.front (.wown 27 .u8 32 a' (n+1) c' (gg.ids++elt 32 h.ids (nx.getD k 0))) ?_;refine J.front (.gown opC 11 54 oa' (n+1) oc' (zs++[z])) ?_;refine run ?_;rw[ecl];refine J.drop (E:=[.gown opC 11 54 oa' (n+1) oc' (zs++[z]), .wown 27 .u8 32 a' (n+1) c' (gg.ids++elt 32 h.ids (nx.getD k 0)), .blk b4 [.slice a' (n+1) c', .slice oa' (n+1) oc'] 61, .iown 3 .i64 (some ⟨b5,0,none⟩) s.pn s.pn (S.castL (nx.set k (nx.getD k 0+1))), .blk b2 [.slice none 0 0, .slice none 0 0] 61, .blk b1 (shC s) 25]) sb ?_
   exact J.next ⟨nx.set k (nx.getD k 0 + 1), n + 1, a', c', oa', oc', zs ++ [z], gg.snoc (elt 32 h.ids (nx.getD k 0)) z.o⟩ trivial (by kernel_rfl) ⟨hstep, congrArg (· + 1) hpn, by dsimp only; rw [List.map_append, hpz]; rfl, fun y hy => by
    rcases List.mem_append.1 hy with hh2 | hh2
    ·exact hpm y hh2
    rw [List.mem_singleton] at hh2; subst hh2; exact ⟨h, List.mem_of_getElem? hh', List.mem_of_getElem? hz'⟩⟩ (by show 64 - (gg.m + 1) < 64 - gg.m; omega)
  exact J.gbr0
 refine J.gbr ?_ ?_
 ·refine J.b1G opC z opC_len rfl rfl rfl fun bc=>?_
  refine J.nil ?_;refine J.gfin [(14, .e),(15, .e),(32, .q),(31, .e),(33, .g),(34, .c),(35, .g)] (by kernel_rfl) ?_;refine run ?_;rw[Int.toNat_natCast (nx.getD k 0)];refine J.b1W rfl rfl hA fun bb=>?_
  refine run ?_;refine J.apW rfl rfl RW.own' fun a' c'=>?_
  refine run ?_;refine J.apG rfl rfl RG.own' opC_one fun oa' oc'=>?_
  refine J.sw rfl ?_;refine run ?_;refine J.front (.blk b4 [.slice a' (n+1) c', .slice oa' (n+1) oc'] 61) ?_;refine J.front (.wown 27 .u8 32 a' (n+1) c' (gg.ids++elt 32 h.ids (nx.getD k 0))) ?_;refine J.front (.gown opC 11 54 oa' (n+1) oc' (zs++[z])) ?_;refine run ?_;rw[ecl];refine J.drop (E:=[.gown opC 11 54 oa' (n+1) oc' (zs++[z]), .wown 27 .u8 32 a' (n+1) c' (gg.ids++elt 32 h.ids (nx.getD k 0)), .blk b4 [.slice a' (n+1) c', .slice oa' (n+1) oc'] 61, .iown 3 .i64 (some ⟨b5,0,none⟩) s.pn s.pn (S.castL (nx.set k (nx.getD k 0+1))), .blk b2 [.slice none 0 0, .slice none 0 0] 61, .blk b1 (shC s) 25]) sb ?_
  exact J.next ⟨nx.set k (nx.getD k 0 + 1), n + 1, a', c', oa', oc', zs ++ [z], gg.snoc (elt 32 h.ids (nx.getD k 0)) z.o⟩ trivial (by kernel_rfl) ⟨hstep, congrArg (· + 1) hpn, by dsimp only; rw [List.map_append, hpz]; rfl, fun y hy => by
   rcases List.mem_append.1 hy with hh2 | hh2
   ·exact hpm y hh2
   rw [List.mem_singleton] at hh2; subst hh2; exact ⟨h, List.mem_of_getElem? hh', List.mem_of_getElem? hz'⟩⟩ (by show 64 - (gg.m + 1) < 64 - gg.m; omega)
 exact J.gbr0
end W
namespace S
open G
def resN(ps:List PG)(x:List Int):Nat:=(x.getD 0 0 % (ps.length:Int)).toNat
section
variable{ps:List PG}{x:List Int}
theorem res_lt(hn:0<ps.length):((resN ps x:Nat):Int)=x.getD 0 0 % (ps.length:Int)∧resN ps x<ps.length:=by
 have h1:=Int.emod_nonneg (x.getD 0 0) (show(ps.length:Int)≠0 by omega);have h2:=Int.emod_lt_of_pos (x.getD 0 0) (show(0:Int)<ps.length by omega);unfold resN;omega
theorem in_part(hg:goodPs ps)(hn:0<ps.length):inS (whole ps).m (whole ps).ids x↔inS (ps.getD (resN ps x) PG.nil).m (ps.getD (resN ps x) PG.nil).ids x:=by
 obtain⟨r1,r2⟩:=res_lt (x:=x) hn;have hm:=whole_mrg hg;constructor
 ·intro h;obtain⟨o,ho⟩:=has_in.1 h;obtain⟨j,hj,i,hi,e1,e2⟩:=mem_parts.1 ((hm.has x o).1 ho);have:=(hg j hj).2.2 i hi;rw[e1]at this;have:j=resN ps x:=by omega
  subst this;exact⟨i,hi,e1⟩
 ·intro h;obtain⟨o,ho⟩:=has_in.1 h;exact has_in.2 ⟨o,(hm.has x o).2 (mem_parts.2 ⟨_,r2,ho⟩)⟩
theorem op_part(hg:goodPs ps)(hn:0<ps.length)(h:inS (ps.getD (resN ps x) PG.nil).m (ps.getD (resN ps x) PG.nil).ids x):
  (whole ps).ops.getD (ixS (whole ps).m (whole ps).ids x) OpV.zero=(ps.getD (resN ps x) PG.nil).ops.getD (ixS (ps.getD (resN ps x) PG.nil).m (ps.getD (resN ps x) PG.nil).ids x) OpV.zero:=by
 obtain⟨r1,r2⟩:=res_lt (x:=x) hn;have hm:=whole_mrg hg;have h2:=(in_part hg hn).2 h;have a:(ps.getD (resN ps x) PG.nil).has x ((ps.getD (resN ps x) PG.nil).ops.getD (ixS (ps.getD (resN ps x) PG.nil).m (ps.getD (resN ps x) PG.nil).ids x) OpV.zero):=⟨_,(ix_in h).1,(ix_in h).2,rfl⟩
 exact has_fun hm.rise ⟨_,(ix_in h2).1,(ix_in h2).2,rfl⟩ ((hm.has _ _).2 (mem_parts.2 ⟨_,r2,a⟩))
end
end S
namespace W
open Go.RowKit G
set_option maxRecDepth 20000
set_option maxHeartbeats 8000000
attribute [local irreducible] RS RX RY Code.wp bodyPost J Ent.blk Ent.iown Ent.wrow Ent.wown Ent.gown Ent.all Ent.emp
instance:Ents prog 110:=⟨.mk func110 (by kernel_rfl) rfl⟩
instance:Ents prog 49:=⟨.mk func49 (by kernel_rfl) rfl⟩
instance:Ents prog 111:=⟨.mk func111 (by kernel_rfl) rfl⟩
theorem shWhole{S0:Nat→Prop}(s:ShA)(TK:TypeId)(w:World)(K0:Kst w TK)(H:ShR S0 w s)(hL:ShL s):
  Calls prog 68 #[.agg (shC s).toArray] w (Gv w (fun q:GrA=> .tuple #[.agg (grC q).toArray, .int .i64 (S.chkH s.V)]) (grE 27 54) (GrP (S.alP s.V).m (S.alP s.V).ids (S.alP s.V).ops)):=by
 have P0:=H.pr;have hl:=P0.len;have hcp:=H.cap;have hll:s.V.ps.length=s.pn:=by rw[List.length_map,H.pr.len]
 have hoi:=S.ok_iff (v:=s.V) H.ml;refine J.enter 71 func68 rfl rfl ?_;refine run ?_;refine J.box rfl rfl rfl fun b1=>?_
 refine J.alloc rfl fun b2=>?_
 refine run ?_;refine J.alloc rfl fun b4=>?_
 refine run ?_;refine J.spd rfl rfl rfl (fun c1=>?_) (fun c1=>?_)
 ·have k1:¬S.okR s.V:=fun h=>by have:=h.1.1;omega
  rw[S.chkH_8 k1,S.al_8 k1];refine run ?_;refine J.nilGr 27 54 ?_;exact J.finG GrA.nil rfl GrP.nil sb
 refine run ?_;refine J.ifd rfl (fun c2=>?_) (fun c2=>?_)
 ·have k1:¬S.okR s.V:=fun h=>by have:=h.1.2;omega
  rw[S.chkH_8 k1,S.al_8 k1];refine run ?_;refine J.nilGr 27 54 ?_;exact J.finG GrA.nil rfl GrP.nil sb
 refine run ?_;refine J.loop (A:=Nat) (fun p=>[(24, .int .i64 (p:Nat))]) [5,6,25,26,27,28,29,30,31,32,33,34] (fun _=>[.blk b4 [.int .i64 (s.pn:Nat)] 3, .blk b2 [.slice none 0 0, .slice none 0 0] 61, .blk b1 (shC s) 25]) (fun p=>p≤s.pn∧∀k,k<p→S.resP (s.pn:Int) (k:Nat) (s.V.ps.getD k S.PG.nil).m (s.V.ps.getD k S.PG.nil).ids) (fun p=>s.pn - p) 0 (by kernel_rfl) ⟨Nat.zero_le _,fun k hk=>absurd hk (Nat.not_lt_zero _)⟩ (fun p j hI=>?_);obtain⟨hp,hI⟩:=hI;refine run ?_;refine J.ifd rfl (fun c3=>?_) (fun c3=>?_)
 ·obtain⟨g,hg⟩:=P0.ex (i:=(p:Nat)) (by omega);have hg':=hg;rw[Int.toNat_natCast]at hg';have G:=H.g hg';have hcp2:=G.cap;have hgP:=shAt hg';refine run ?_;refine J.alloc rfl fun b5=>?_
  refine J.alloc rfl fun b6=>?_
  refine run ?_;refine J.fn rfl rfl rfl ?_;refine J.callp rfl rfl (fun w' M=>hasWh (s.pn:Int) (p:Nat) g.ia g.m g.ic g.ids b4 b5 _ _ w' (blkC b4 M) (blkC b5 M) (G.ids.ext M.ext) ⟨by omega,by omega⟩ (by omega)) ?_;refine run ?_;refine J.ifd rfl (fun c4=>?_) (fun c4=>?_)
  ·have k1 : ¬ S.okR s.V := fun h => c4 (by
    have := ((hoi.1 h).2.1 p (by omega)).2.2
    rw [hgP, hll] at this
    exact this)
   rw[S.chkH_8 k1,S.al_8 k1];refine run ?_;refine J.nilGr 27 54 ?_;exact J.finG GrA.nil rfl GrP.nil sb
  refine run ?_;refine J.next (p+1) ⟨rfl,trivial⟩ (by kernel_rfl) ⟨by omega,fun k hk=>?_⟩ (by omega);rcases Nat.lt_or_ge k p with c|c
  ·exact hI k c
  obtain rfl:k=p:=by omega
  rw[hgP];exact Decidable.not_not.1 c4
 have hres:∀k,k<s.V.ps.length→S.resP (s.V.ps.length:Int) (k:Nat) (s.V.ps.getD k S.PG.nil).m (s.V.ps.getD k S.PG.nil).ids:=fun k hk=>by
  rw[hll];exact hI k (by omega)
 refine run ?_;refine J.call rfl rfl (fun w' M=>shMerge s w' (H.ext M.ext) hL (by omega) hres) fun q hq=>?_
 obtain⟨q,ok⟩:=q;dsimp only[grE,List.cons_append,List.nil_append]at hq⊢;refine run ?_;refine J.alloc rfl fun b7=>?_
 refine run ?_;cases ok with
 |false=>
  have k1:¬S.okR s.V:=fun h=>hq.2 rfl (hoi.1 h).2.1;rw[S.chkH_8 k1,S.al_8 k1];refine run ?_;refine J.nilGr 27 54 ?_;exact J.finG GrA.nil rfl GrP.nil sb
 |true=>
 obtain⟨hgp,hP⟩:=hq.1 rfl;have hle:=H.le hL (by omega);have hwg:=S.whole_good (ps:=s.V.ps) H.ml;have hok:=refWholeOk H;have hqs:q.m≤70∧q.n≤70:=⟨by rw[hP.m];exact Nat.le_trans hle (by decide),by rw[hP.n,hwg.2];exact Nat.le_trans hle (by decide)⟩
 have hqP:q.P=S.whole s.V.ps:=by rw[hP.P]
 refine run ?_;refine J.callp rfl rfl (fun w' M=>dagCheck q _ w' (K0.ext M.ext) (GrR.own (hP.ok hok) hP.cap hqs w' M)) ?_;refine run ?_;refine J.spn rfl rfl rfl (fun c5=>?_) (fun c5=>?_)
 ·have k1:¬S.okR s.V:=fun h=>c5 (by have:=h.2.1;unfold S.chkP at this;rw[←hqP]at this;exact this);rw[S.chkH_8 k1,S.al_8 k1];refine run ?_;refine J.nilGr 27 54 ?_;exact J.finG GrA.nil rfl GrP.nil sb
 refine run ?_;refine J.ifn rfl (fun c6=>?_) (fun c6=>?_)
 ·have k1:¬S.okR s.V:=fun h=>c6 (by have:=(hoi.1 h).2.2.2.1;rw[hP.m];exact this);rw[S.chkH_8 k1,S.al_8 k1];refine run ?_;refine J.nilGr 27 54 ?_;exact J.finG GrA.nil rfl GrP.nil sb
 have hhn:S.hdN q.P≤q.m:=S.numF_le _ _;refine run ?_;refine J.call rfl rfl (fun w' M=>ancHeads q _ w' (K0.ext M.ext) (GrR.own (hP.ok hok) hP.cap hqs w' M) c5) fun q2 hq2=>?_
 obtain⟨ha,hn,hc⟩:=q2;dsimp only at hq2⊢;refine run ?_;refine J.callp rfl rfl (fun w' M=>(RW.own' (a:=ha) w' M).elim fun _ k0=>eqIDs _ _ _ _ _ _ _ _ w' k0 (H.hr.ext M.ext) (by omega) (by omega)) ?_;refine run ?_;refine J.ifnot rfl (fun c7=>?_) (fun c7=>?_)
 ·have k1:¬S.okR s.V:=fun h=>of_decide_eq_false c7 (by have:=(hoi.1 h).2.2.2.2;rw[hqP];exact this.symm);rw[S.chkH_8 k1,S.al_8 k1];refine run ?_;refine J.nilGr 27 54 ?_;exact J.finG GrA.nil rfl GrP.nil sb
 have k1:S.okR s.V:=hoi.2 ⟨⟨by omega,by omega⟩,hgp,by unfold S.chkP;rw[←hqP];exact c5,by rw[←hP.m];exact c6,by have:=of_decide_eq_true c7;rw[←hqP];exact this.symm⟩;rw[S.chkH_0 k1,S.al_0 k1];refine run ?_;exact J.finG q rfl hP sb
end W
namespace W
open Go.RowKit G
theorem nil_all(TI TO:TypeId)(w:World):Sep (grE TI TO ⟨none,none,0,0,0,0,[],[]⟩) no w:=
 ⟨no,no,fun _ h=>h,fun _ h=>h,fun _ h=>h.elim,⟨GOwn.nil 0 w TO opC_len,fun b hb=>by cases hb⟩,no,no,fun _ h=>h,fun _ h=>h,fun _ h=>h.elim,trivial,no,no,fun _ h=>h,fun _ h=>h,fun _ h=>h.elim,⟨WOwn.nil 0 w TI .u8 32,fun b hb=>by cases hb⟩,trivial⟩
theorem nil_ent(TI TO:TypeId)(w:World):(Ent.all (grE TI TO ⟨none,none,0,0,0,0,[],[]⟩)).ok no w:=nil_all TI TO w
theorem nil_rep(TI TO:TypeId)(w:World):∀n:Nat,Sep (List.replicate n (Ent.all (grE TI TO ⟨none,none,0,0,0,0,[],[]⟩))) no w
 |0=>trivial
 |n+1=>⟨no,no,fun _ h=>h,fun _ h=>h,fun _ h=>h.elim,nil_ent TI TO w,nil_rep TI TO w n⟩
end W
namespace W
open Go.RowKit G
set_option maxRecDepth 20000
set_option maxHeartbeats 8000000
attribute [local irreducible] RS RX RY Code.wp bodyPost J Ent.blk Ent.iown Ent.wrow Ent.wown Ent.gown Ent.all Ent.emp
instance:Ents prog 68:=⟨.mk func68 (by kernel_rfl) rfl⟩
instance:Ents prog 18:=⟨.mk func18 (by kernel_rfl) rfl⟩
instance:Ents prog 66:=⟨.mk func66 (by kernel_rfl) rfl⟩
theorem shCheck{S0:Nat→Prop}(s:ShA)(TK:TypeId)(w:World)(K0:Kst w TK)(H:ShR S0 w s)(hL:ShL s):
  Calls prog 18 #[.agg (shC s).toArray] w (Ret w fun v _=>v= .int .i64 (S.chkH s.V)):=by
 refine J.enter 10 func18 rfl rfl ?_;refine run ?_;refine J.box rfl rfl rfl fun b1=>?_
 refine run ?_;refine J.call rfl rfl (fun w' M=>shWhole s _ w' (K0.ext M.ext) (H.ext M.ext) hL) fun q hq=>?_
 dsimp only[grE,List.cons_append,List.nil_append];refine run ?_;refine J.alloc rfl fun b3=>?_
 refine run ?_;exact J.fin rfl
theorem shNum{S0:Nat→Prop}(s:ShA)(x:List Int)(TK:TypeId)(w:World)(K0:Kst w TK)(H:ShR S0 w s)(hL:ShL s)(hx:Arr .u8 32 x):
  Calls prog 13 #[.agg (shC s).toArray, .agg (ints .u8 x).toArray] w (Ret w fun v _=>v= .tuple #[.int .i64 (S.nbO s.V x), .int .i64 (S.chkH s.V)]):=by
 have hcp:=H.cap;have hll:s.V.ps.length=s.pn:=by rw[List.length_map,H.pr.len]
 refine J.enter 15 func13 rfl rfl ?_;refine run ?_;refine J.box rfl rfl rfl fun b1=>?_
 refine run ?_;refine J.box rfl rfl rfl fun b2=>?_
 refine run ?_;refine J.callp rfl rfl (fun w' M=>shCheck s _ w' (K0.ext M.ext) (H.ext M.ext) hL) ?_;refine run ?_;refine J.ifn rfl (fun c1=>?_) (fun c1=>?_)
 ·obtain⟨k1,k2⟩:=S.chkH_ne c1;refine run ?_;exact J.fin (tup2 (congrArg _ (S.nb_8 k1).symm) rfl)
 have hok:=S.chkH_iff.1 c1;obtain⟨n1,n4⟩:=ok_len H hok;refine run ?_;refine J.callp rfl rfl (fun w' M=>shNumber x (s.pn:Nat) hx ⟨by omega,by omega⟩ w') ?_;refine run ?_;exact J.fin (tup2 (congrArg _ (by rw[S.nb_0 hok,hll])) (congrArg _ c1.symm))
theorem shFind{S0:Nat→Prop}(s:ShA)(x:List Int)(g:GrA)(w:World)(H:ShR S0 w s)(hx:Arr .u8 32 x)(hgp:S.goodPs s.V.ps)(h1:1≤s.pn)(hg:s.gs[S.resN s.V.ps x]? =some g):
  Calls prog 66 #[.agg (shC s).toArray, .agg (ints .u8 x).toArray] w (Ret w fun v _=>v= .tuple #[.int .i64 (S.resN s.V.ps x:Nat), .int .i64 (S.spotS g.m g.ids x:Nat), .bool (decide (S.inS g.m g.ids x))]):=by
 have P0:=H.pr;have hcp:=H.cap;have hll:s.V.ps.length=s.pn:=by rw[List.length_map,H.pr.len]
 obtain⟨r1,r2⟩:=S.res_lt (ps:=s.V.ps) (x:=x) (by omega);have G:=H.g hg;have hgP:=shAt hg;have hr:S.Rising g.m g.ids:=by have:=(hgp _ r2).2.1;rw[hgP]at this;exact this
 obtain⟨r,hr0⟩:=ex (S.resN s.V.ps x);rw[←hr0]at r1 r2 hg⊢;have hg2:s.gs[((r:Nat):Int).toNat]? =some g:=by rw[Int.toNat_natCast];exact hg
 have hcp2:=G.cap;refine J.enter 24 func66 rfl rfl ?_;refine run ?_;refine J.box rfl rfl rfl fun b1=>?_
 refine run ?_;refine J.box rfl rfl rfl fun b2=>?_
 refine run ?_;refine J.callp rfl rfl (fun w' M=>shNumber x (s.pn:Nat) hx ⟨by omega,by omega⟩ w') ?_;rw[←hll,←r1];refine run ?_;refine J.regionX [(0, .q),(1, .q),(2, .q),(3, .q),(4, .q),(5, .q),(6, .q),(7, .e),(8, .q),(9, .q),(10, .q),(11, .q),(12, .q)] mixed (by kernel_rfl) ?_;refine run ?_;refine J.callp rfl rfl (fun w' M=>bsID _ _ _ _ _ _ (G.ids.ext M.ext) hx hr (by omega)) ?_;refine run ?_;exact J.fin rfl
theorem shHas{S0:Nat→Prop}(s:ShA)(x:List Int)(TK:TypeId)(w:World)(K0:Kst w TK)(H:ShR S0 w s)(hL:ShL s)(hx:Arr .u8 32 x):
  Calls prog 15 #[.agg (shC s).toArray, .agg (ints .u8 x).toArray] w (Ret w fun v _=>v= .tuple #[.bool (S.hsB s.V x), .int .i64 (S.chkH s.V)]):=by
 have hcp:=H.cap;have hll:s.V.ps.length=s.pn:=by rw[List.length_map,H.pr.len]
 have hoi:=S.ok_iff (v:=s.V) H.ml;refine J.enter 21 func15 rfl rfl ?_;refine run ?_;refine J.box rfl rfl rfl fun b1=>?_
 refine run ?_;refine J.box rfl rfl rfl fun b2=>?_
 refine run ?_;refine J.callp rfl rfl (fun w' M=>shCheck s _ w' (K0.ext M.ext) (H.ext M.ext) hL) ?_;refine run ?_;refine J.ifn rfl (fun c1=>?_) (fun c1=>?_)
 ·obtain⟨k1,k2⟩:=S.chkH_ne c1;refine run ?_;exact J.fin (tup2 (congrArg _ (S.hs_8 k1).symm) rfl)
 have hok:=S.chkH_iff.1 c1;obtain⟨n1,n4⟩:=ok_len H hok;have hgp:=(hoi.1 hok).2.1;obtain⟨r1,r2⟩:=S.res_lt (ps:=s.V.ps) (x:=x) (by omega);obtain⟨g,hg⟩:∃g,s.gs[S.resN s.V.ps x]? =some g:=⟨_,List.getElem?_eq_getElem (by rw[H.pr.len];omega)⟩
 have hgP:=shAt hg;have hin:=S.in_part (x:=x) hgp (by omega);rw[hgP]at hin;refine run ?_;refine J.callp rfl rfl (fun w' M=>shFind s x g w' (H.ext M.ext) hx hgp n1 hg) ?_;refine run ?_;exact J.fin (tup2 (congrArg _ (by rw[S.hs_0 hok];exact decide_eq_decide.2 hin.symm)) (congrArg _ c1.symm))
theorem shGet{S0:Nat→Prop}(s:ShA)(x:List Int)(TK:TypeId)(w:World)(K0:Kst w TK)(H:ShR S0 w s)(hL:ShL s)(hx:Arr .u8 32 x):
  Calls prog 20 #[.agg (shC s).toArray, .agg (ints .u8 x).toArray] w (Gv w (fun q:OpA=> .tuple #[.agg (opC q).toArray, .int .i64 (S.gtE s.V x)]) (fun q=>[.wrow .u8 32 q.pa q.o.n q.o.ids]) fun q=>q.o.n≤q.pc∧q.o=S.gtO s.V x):=by
 have P0:=H.pr;have hcp:=H.cap;have hll:s.V.ps.length=s.pn:=by rw[List.length_map,H.pr.len]
 have hoi:=S.ok_iff (v:=s.V) H.ml;refine J.enter 39 func20 rfl rfl ?_;refine run ?_;refine J.box rfl rfl rfl fun b1=>?_
 refine run ?_;refine J.box rfl rfl rfl fun b2=>?_
 refine run ?_;refine J.alloc rfl fun b3=>?_
 refine run ?_;refine J.callp rfl rfl (fun w' M=>shCheck s _ w' (K0.ext M.ext) (H.ext M.ext) hL) ?_;refine run ?_;refine J.ifn rfl (fun c1=>?_) (fun c1=>?_)
 ·obtain⟨k1,k2⟩:=S.chkH_ne c1;obtain⟨k3,k4⟩:=S.gt_8 (x:=x) k1;rw[k2,k4];refine run ?_;refine J.nilW .u8 32 ?_;exact J.finG ⟨S.OpV.zero,none,0⟩ rfl ⟨Nat.le_refl _,k3.symm⟩ (.cons_cons _ (List.nil_sublist _))
 have hok:=S.chkH_iff.1 c1;obtain⟨n1,n4⟩:=ok_len H hok;have hgp:=(hoi.1 hok).2.1;obtain⟨r1,r2⟩:=S.res_lt (ps:=s.V.ps) (x:=x) (by omega);obtain⟨g,hg⟩:∃g,s.gs[S.resN s.V.ps x]? =some g:=⟨_,List.getElem?_eq_getElem (by rw[H.pr.len];omega)⟩
 have G:=H.g hg;have hgP:=shAt hg;have hin:=S.in_part (x:=x) hgp (by omega);have hop:=S.op_part (x:=x) hgp (by omega);have hgd:=hgp _ r2;rw[hgP]at hin hop hgd;have hcp2:=G.cap;refine run ?_;refine J.callp rfl rfl (fun w' M=>shFind s x g w' (H.ext M.ext) hx hgp n1 hg) ?_;refine run ?_;refine J.ifnot rfl (fun c2=>?_) (fun c2=>?_)
 ·obtain⟨k3,k4⟩:=S.gt_6 hok fun h=>of_decide_eq_false c2 (hin.1 h);rw[k4];refine run ?_;refine J.nilW .u8 32 ?_;exact J.finG ⟨S.OpV.zero,none,0⟩ rfl ⟨Nat.le_refl _,k3.symm⟩ (.cons_cons _ (List.nil_sublist _))
 have c3:S.inS g.m g.ids x:=of_decide_eq_true c2;obtain⟨k3,k4⟩:=S.gt_0 hok (hin.2 c3);rw[k4];have hsp:=S.spotS_ix hgd.2.1 c3;rw[show S.spotS g.m g.ids x=S.ixS g.m g.ids x from hsp];have hlt:=(S.ix_in c3).1;have hgn:g.n=g.m:=by have:=hgd.1.2;have h2:g.ops.length=g.m:=this;have h3:=G.len;omega
 obtain⟨z,hz⟩:=G.ops.ex (i:=(S.ixS g.m g.ids x:Nat)) (by omega);have R:=G.op hz;have hz':=hz;rw[Int.toNat_natCast]at hz';have hzo:=GrA.opAt hz';have G0:=G.ops;have hn40:=R.ok.n;obtain⟨r,hr0⟩:=ex (S.resN s.V.ps x);rw[←hr0]at hg r1 r2⊢;have hg2:s.gs[((r:Nat):Int).toNat]? =some g:=by rw[Int.toNat_natCast];exact hg
 refine run ?_;refine J.alloc rfl fun b4=>?_
 refine run ?_;refine J.call rfl rfl (fun w' M=>cloneW _ _ _ _ _ (R.row.ext M.ext) R.cap (by omega)) fun q hq=>?_
 refine run ?_;refine J.re (.wown 27 .u8 32 q.1 z.o.n q.2 z.o.ids) (.wrow .u8 32 q.1 z.o.n z.o.ids) (fun S w=>wown_wrow) ?_;refine J.finG ⟨z.o,q.1,q.2⟩ rfl ⟨hq,?_⟩ sb;rw[k3,hop c3];exact hzo.symm
theorem shAll{S0:Nat→Prop}(s:ShA)(TK:TypeId)(w:World)(K0:Kst w TK)(H:ShR S0 w s)(hL:ShL s):
  Calls prog 22 #[.agg (shC s).toArray] w (Gv w (fun q:GrA=> .tuple #[.agg (grC q).toArray, .int .i64 (S.chkH s.V)]) (grE 27 54) (GrP (S.alP s.V).m (S.alP s.V).ids (S.alP s.V).ops)):=by
 refine J.enter 7 func22 rfl rfl ?_;refine run ?_;refine J.box rfl rfl rfl fun b1=>?_
 refine run ?_;refine J.alloc rfl fun b2=>?_
 refine run ?_;refine J.call rfl rfl (fun w' M=>shWhole s _ w' (K0.ext M.ext) (H.ext M.ext) hL) fun q hq=>?_
 dsimp only[grE,List.cons_append,List.nil_append];refine run ?_;exact J.finG q rfl hq sb
theorem shHeads{S0:Nat→Prop}(s:ShA)(TK:TypeId)(w:World)(K0:Kst w TK)(H:ShR S0 w s)(hL:ShL s):
  Calls prog 24 #[.agg (shC s).toArray] w (Gv w (fun q:Option Addr×Nat×Nat=> .tuple #[.slice q.1 q.2.1 q.2.2, .int .i64 (S.hdV s.V), .int .i64 (S.chkH s.V)]) (fun q=>[.wrow .u8 32 q.1 q.2.1 (S.hdL s.V)]) fun q=>q.2.1≤100):=by
 have hcp:=H.cap;refine J.enter 15 func24 rfl rfl ?_;refine run ?_;refine J.box rfl rfl rfl fun b1=>?_
 refine run ?_;refine J.callp rfl rfl (fun w' M=>shCheck s _ w' (K0.ext M.ext) (H.ext M.ext) hL) ?_;refine run ?_;refine J.ifn rfl (fun c1=>?_) (fun c1=>?_)
 ·obtain⟨k1,k2⟩:=S.chkH_ne c1;rw[k2,(S.hd_8 k1).1,(S.hd_8 k1).2];refine run ?_;refine J.nilW .u8 32 ?_;exact J.finG (none,0,0) rfl (Nat.zero_le _) (.cons_cons _ (List.nil_sublist _))
 have hok:=S.chkH_iff.1 c1;rw[c1,(S.hd_0 hok).1,(S.hd_0 hok).2];refine run ?_;refine J.regionR [.blk b1 (shC s) 25] [(0, .q),(1, .q),(3, .q),(4, .q),(2, .e),(5, .q),(6, .q),(7, .q)] mixed (by kernel_rfl) (by repeat(first|exact List.Sublist.refl _|refine List.Sublist.cons_cons _ ?_|refine List.Sublist.cons _ ?_)) ?_;refine run ?_;refine J.call rfl rfl (fun w' M=>cloneW _ _ _ _ _ (H.hr.ext M.ext) hcp.2.1 (by omega)) fun q hq=>?_
 refine run ?_;refine J.re (.wown 27 .u8 32 q.1 s.hn q.2 s.hs) (.wrow .u8 32 q.1 s.hn s.hs) (fun S w=>wown_wrow) ?_;exact J.finG (q.1,s.hn,q.2) rfl hcp.2.2.2 sb
theorem grAll_nil(n:Nat):(List.replicate n GrA.nil).map grAll=List.replicate n (.all (grE 27 54 ⟨none,none,0,0,0,0,[],[]⟩)):=by rw[List.map_replicate];rfl
theorem shNew(n:Int)(w:World):
  Calls prog 11 #[.int .i64 n] w (Gv w (fun q:ShA=> .tuple #[.agg (shC q).toArray, .int .i64 (S.nwE n)]) (fun q=>shE q) (ShK (S.nwS n))):=by
 refine J.enter 13 func11 rfl rfl ?_;refine run ?_;refine J.alloc rfl fun b2=>?_
 refine run ?_;refine J.spd rfl rfl rfl (fun c1=>?_) (fun c1=>?_)
 ·refine run ?_;refine J.nilWo 27 .u8 32 ?_;refine J.noA ?_;refine J.nilG (fun g:GrA=>grC g) 2 61 grC_len ?_;have e1:S.nwE n=2:=if_neg (by omega);have e2:S.nwS n=S.ShV.zero:=if_neg (by omega);rw[e1,e2];exact J.finG ShA.zero rfl ⟨rfl,fun g hg=>by cases hg⟩ sb
 refine run ?_;refine J.ifd rfl (fun c2=>?_) (fun c2=>?_)
 ·refine run ?_;refine J.nilWo 27 .u8 32 ?_;refine J.noA ?_;refine J.nilG (fun g:GrA=>grC g) 2 61 grC_len ?_;have e1:S.nwE n=2:=if_neg (by omega);have e2:S.nwS n=S.ShV.zero:=if_neg (by omega);rw[e1,e2];exact J.finG ShA.zero rfl ⟨rfl,fun g hg=>by cases hg⟩ sb
 have e1:S.nwE n=0:=if_pos (by omega);have e2:S.nwS n=S.madeS S.PG.nil n.toNat:=if_pos (by omega);obtain⟨N,rfl⟩:∃N:Nat,n=(N:Int):=⟨n.toNat,by omega⟩
 rw[Int.toNat_natCast]at e2;rw[e1,e2];refine run ?_;refine J.mkG (fun g:GrA=>grC g) GrA.nil grC_len rfl rfl rfl rfl fun b3=>?_
 refine run ?_;refine J.nilWo 27 .u8 32 ?_;refine J.newA ((List.replicate N GrA.nil).map grAll) ?_ (fun w=>by rw[grAll_nil];exact nil_rep _ _ w N);refine J.front (.gown (fun g:GrA=>grC g) 2 61 (some ⟨b3,0,none⟩) N N (List.replicate N GrA.nil)) ?_;refine J.finG ⟨some ⟨b3,0,none⟩,N,N,List.replicate N GrA.nil,none,0,0,[],0⟩ rfl ⟨?_,fun g hg=>?_⟩ sb
 ·rw[S.made_nil];unfold ShA.V;dsimp only;rw[List.map_replicate];rfl
 obtain rfl:=List.eq_of_mem_replicate hg;exact⟨fun z hz=>(by cases hz),fun z hz=>(by cases hz)⟩
structure ShI(S0:Nat→Prop)(w:World)(s:ShA):Prop where
 pr:GRow (fun g:GrA=>grC g) 2 S0 w s.pa s.pn s.gs
 gi:∀g∈s.gs,GrI S0 w g
 hr:WRow .u8 32 S0 w s.ha s.hn s.hs
 cap:s.pn≤s.pc∧s.hn≤s.hc
theorem ShI.ext{S0:Nat→Prop}{w w':World}{s:ShA}(h:ShI S0 w s)(x:Ext w w'):ShI S0 w' s:=⟨h.pr.ext x,fun g hg=>(h.gi g hg).ext x,h.hr.ext x,h.cap⟩
def ShSm(s:ShA):Prop:=s.pn≤6∧s.hn≤60∧∀k,k<s.pn→∀g,s.gs[k]? =some g→(g.m≤16∧g.n≤16)∧GrSm g
theorem ShI.sh{S0:Nat→Prop}{w:World}{s:ShA}(h:ShI S0 w s)(k:ShSm s):ShR S0 w s∧ShL s:=by
 have hl:=h.pr.len;have each:∀g∈s.gs,(g.m≤16∧g.n≤16)∧GrSm g:=fun g hg=>by
  obtain⟨i,hi,rfl⟩:=List.getElem_of_mem hg;exact k.2.2 i (by omega) _ (List.getElem?_eq_getElem hi)
 exact ⟨⟨h.pr, fun g hg => (h.gi g hg).gr (each g hg).2, h.hr, h.cap.1, h.cap.2, k.1, by have := k.2.1; omega⟩, fun hn4 => by
  have h2 := S.allN_le (ps := s.V.ps) (b := 16) (fun p hp => by
   obtain ⟨g, hg, rfl⟩ := List.mem_map.1 hp
   exact (each g hg).1.1) s.V.ps.length (Nat.le_refl _)
  have h3 : s.V.ps.length = s.pn := by rw [List.length_map, hl]
  rw [List.take_length] at h2
  omega⟩
theorem refShGreat{S0:Nat→Prop}(s:ShA)(w:World)(H:ShI S0 w s):
  Calls prog 10 #[.agg (shC s).toArray] w (Gv w (fun q:Bool=> .bool q) (fun _=>[]) fun q=>q=false→ShSm s):=by
 have P0:=H.pr;have hl:=P0.len;refine J.enter 50 func10 rfl rfl ?_;refine run ?_;refine J.box rfl rfl rfl fun b1=>?_
 refine run ?_;refine J.loopS (A:=Nat) (fun p=>[(3, .int .i64 (p:Nat))]) [4,5,6,7,8,9,10,11,12,13,14,15,16,17,18,19,20,21,22,23,24,25,26,27,28,29,30,31,32,33,34,35,36,37,38,39,40] (fun p=>(p≤s.pn∧p≤7)∧∀k,k<p→∀g,s.gs[k]? =some g→(g.m≤16∧g.n≤16)∧GrSm g) (fun p=>7 - p) 0 (by kernel_rfl) ⟨⟨Nat.zero_le _,Nat.zero_le _⟩,fun k hk=>absurd hk (Nat.not_lt_zero _)⟩ (fun p j hI=>?_);obtain⟨⟨hp,hp7⟩,hI⟩:=hI;refine run ?_;refine J.spd rfl rfl rfl (fun c1=>?_) (fun c1=>?_)
 ·refine run ?_;refine J.ifd rfl (fun c2=>?_) (fun c2=>?_)
  ·obtain⟨g,hg⟩:=P0.ex (i:=(p:Nat)) (by omega);have hg':=hg;rw[Int.toNat_natCast]at hg';have G:=H.gi g (List.mem_of_getElem? hg');refine run ?_;refine J.spd rfl rfl rfl (fun c3=>?_) (fun c3=>?_)
   ·refine run ?_;exact J.finG true rfl (fun h=>by cases h) (List.nil_sublist _)
   refine run ?_;refine J.spd rfl rfl rfl (fun c4=>?_) (fun c4=>?_)
   ·refine run ?_;exact J.finG true rfl (fun h=>by cases h) (List.nil_sublist _)
   refine run ?_;refine J.call rfl rfl (fun w' M=>refGreat g w' (G.ext M.ext)) fun q hq=>?_
   refine run ?_;refine J.ifb rfl (fun c5=>?_) (fun c5=>?_)
   ·refine run ?_;exact J.finG true rfl (fun h=>by cases h) (List.nil_sublist _)
   refine run ?_;refine J.nextS (p+1) ⟨rfl,trivial⟩ (by kernel_rfl) ⟨⟨by omega,by omega⟩,fun k hk h hh=>?_⟩ (by omega);rcases Nat.lt_or_ge k p with c|c
   ·exact hI k c h hh
   obtain rfl:k=p:=by omega
   rw[hg']at hh;obtain rfl:=Option.some.inj hh;exact⟨⟨by omega,by omega⟩,hq c5⟩
  refine run ?_;refine J.spd rfl rfl rfl (fun c6=>?_) (fun c6=>absurd (by omega) c6);refine run ?_;exact J.finG true rfl (fun h=>by cases h) (List.nil_sublist _)
 refine run ?_;refine J.spd rfl rfl rfl (fun c6=>?_) (fun c6=>?_)
 ·refine run ?_;exact J.finG true rfl (fun h=>by cases h) (List.nil_sublist _)
 refine run ?_;refine J.finG _ rfl (fun h=>?_) (List.nil_sublist _);have h2:=of_decide_eq_false h;exact⟨by omega,by omega,fun k hk=>hI k (by omega)⟩
end W
namespace L
open Go Go.Proofs.YtkmgnmebadghbaaGreatDoor G W
open Go.ChangeShapes Go.WideShapes Go.ChangeAt Go.RowKit
set_option maxRecDepth 100000
theorem z_shint:prog.cellsOf 3=1:=by kernel_rfl
theorem z_shards:prog.cellsOf 25=3:=by kernel_rfl
theorem z_grs:prog.cellsOf 22=1:=by kernel_rfl
section
variable{H:Type}{enc:TypeId×Value→H}{w:World}{base:Nat}{sp:Nat→Bool}{held:Bool}{fuel:Nat}{cs:List Value}{x:DataW H×List MemPlace}
theorem shards_in(h:DataW.trod enc prog w base sp held fuel 25 cs=some x):∃s:ShA,cs=shC s∧ShI (fun _=>True) w s:=by
  have hl:=(fields_in underlying25 h).1;rw[z_shards]at hl
  match cs,hl,h with
  |[c0,c1,c2],_,h=>
    obtain⟨_,_,f0⟩:=field_in 0 underlying25 rfl z_grs h;obtain⟨_,_,f1⟩:=field_in 1 underlying25 rfl z_ids h;obtain⟨_,_,f2⟩:=field_in 2 underlying25 rfl z_shint h;obtain⟨pa,pn,pc,gs,e0,c0',R0,Q0⟩:=grow_in (fun g:GrA=>grC g) (fun g=>GrI (fun _=>True) w g) GrA.nil grC_len underlying22 z_gr (by decide) (fun m ds y hd=>graph_in hd) f0;obtain⟨ha,hn,hc,hs,e1,c1',R1⟩:=ids_in underlying23 underlying27 underlying5 z_u8 z_id (by decide) f1;obtain⟨ver,e2,_⟩:=int_in underlying3 f2;have q0:[c0]=[Value.slice pa pn pc]:=e0;have q1:[c1]=[Value.slice ha hn hc]:=e1;have q2:[c2]=[Value.int .i64 ver]:=e2;simp only[List.cons.injEq,and_true]at q0 q1 q2;subst q0 q1 q2;exact⟨⟨pa,pn,pc,gs,ha,hn,hc,hs,ver⟩,rfl,R0,Q0,R1,c0',c1'⟩
end
end L
end Go.Proofs.YtkmgnmebadghbaaGreatDoor
